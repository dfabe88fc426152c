-- by wip/pack.py of this repo
import Derived.Test.YtaadbpibmlnncaaZ05Hx0
import Derived.Test.YtaadbpibmlnncaaZ05WLast
import Derived.Test.YtaadbpibmlnncaaZ05WMore
import Derived.Test.YtaadbpibmlnncaaZ05WWords
import Derived.Test.YtaadbpibmlnncaaZ05Short
namespace Go.Proofs.Ytaadbpibmlnncaa.H
open Go.RowKit Go.Proofs.YtaadbpibmlnncaaW.PrintWords Go.Proofs.YtaadbpibmlnncaaW.PrintLast Go.Proofs.YtaadbpibmlnncaaW.PrintMore
attribute [local go_sem] max2_int min2_int max_two min_two max_three min_three max_four min_four
set_option maxHeartbeats 8000000
set_option maxRecDepth 100000
set_option linter.unusedVariables false
set_option linter.unusedSimpArgs false
def laws_szIntS.f (l0 : List Int) (a1 : Int) : Option (Int) := if (wrap64 (a1 - (l0.length : Int))) < 0 then (some (-1)) else (some (wrap64 (a1 - (l0.length : Int))))
theorem laws_szIntS.calls (A0 : Option Addr) (c0 : Nat) (l0 : List Int) (a1 : Int) (r : Int) (w : World) (Aa : Kd.C (Kd.int .i64) w A0 l0.length l0) (Ab : l0.length ≤ c0) (h : laws_szIntS.f l0 a1 = some r) :
  Calls Try.prog 42 #[.slice A0 l0.length c0, .int .i64 a1] w fun e w' => e = .returned (.int .i64 r) ∧ Drawn0 w w' := by
 have Ac := Aside0.mk Aa; have Ad := Aside0.mk Ab; clear Aa Ab; have H : (if (wrap64 (a1 - (l0.length : Int))) < 0 then (some (-1)) else (some (wrap64 (a1 - (l0.length : Int))))) = some r := h; clear h
 by_cases c3 : (wrap64 (a1 - (l0.length : Int))) < 0
 ·rw [if_pos c3] at H
  have c3b0 : decide ((wrap64 (a1 - (l0.length : Int))) < 0) = true := decide_eq_true c3; clear c3; obtain rfl := Option.some.inj H
  go_enter Try.func42, Try.ntmps42
  go_wp2
  go_ret
  exact ⟨Z5, Z23⟩
 ·rw [if_neg c3] at H
  have c3b0 : decide ((wrap64 (a1 - (l0.length : Int))) < 0) = false := decide_eq_false c3; clear c3; obtain rfl := Option.some.inj H
  go_enter Try.func42, Try.ntmps42
  go_wp2
  go_ret
  exact ⟨Z5, Z23⟩
def laws_szChart.f (a0_0 : Int) (a0_1 : Int) (l0_2 : List Int) (a1 : Int) : Option (Int) := (laws_szIntS.f l0_2 a1).bind fun t102 => (if t102 < 0 then (some (-1)) else (some t102))
theorem laws_szChart.calls (Ag : Int) (Ah : Int) (Ad : Option Addr) (Ae : Nat) (Aa : List Int) (a1 : Int) (r : Int) (w : World) (Ai : Kd.C (Kd.int .i64) w Ad Aa.length Aa) (Aj : Aa.length ≤ Ae) (h : laws_szChart.f Ag Ah Aa a1 = some r) :
  Calls Try.prog 12 #[.agg #[.int .i64 Ag, .int .i64 Ah, .slice Ad Aa.length Ae], .int .i64 a1] w fun e w' => e = .returned (.int .i64 r) ∧ Below w.heap.size w w' := by
 have hu24 := Try.underlying24; have Ak := Aside0.mk Ai; have Al := Aside0.mk Aj; clear Ai Aj; have HB := aM (Below.refl w.heap.size w); have H : ((laws_szIntS.f Aa a1).bind fun Ab => (if Ab < 0 then (some (-1)) else (some Ab))) = some r := h; clear h; replace H := Option.bind_eq_some_iff.mp H; obtain ⟨Ab, Bc, H⟩ := H; replace H : (if Ab < 0 then (some (-1)) else (some Ab)) = some r := H; have A3 := Aside0.mk Bc; clear Bc
 by_cases c4 : Ab < 0
 ·rw [if_pos c4] at H
  have c4b0 : decide (Ab < 0) = true := decide_eq_true c4; clear c4; obtain rfl := Option.some.inj H
  go_enter Try.func12, Try.ntmps12
  go_wp2_with (first | ((with_reducible refine gate_dst (N := 2) rfl ?_); refine bxE 2 #[.int .i64 Ag, .int .i64 Ah, .slice Ad Aa.length Ae] 24 ?_; intro Am hg w5 hbox hb; have Ac := aM (hbox); have An := gwS hg Z0; have Af := gwS hg Z0; replace HB := hbS Z0 hb; clear hb hbox hg; obtain ⟨Ao, Ap, Aq⟩ := bz3 Ac; obtain ⟨Ar, Au, Av⟩ := fz3 Ac) | ((with_reducible refine gate_callee (f := 42) rfl ?_); refine glE (some 8) Try.func42 #[.slice Ad Aa.length Ae, .int .i64 a1] ?_; (with_reducible refine (laws_szIntS.calls _ _ Aa a1 Ab _ ?side1 ?side2 A3.out).mono ?_); (case side1 => exact Z63); (case side2 => exact Al.out); rintro e w' ⟨rfl, ⟨nd, rfl⟩⟩; refine ⟨_, rfl, ?_⟩))
  go_ret
  exact ⟨Z4, Z2⟩
 ·rw [if_neg c4] at H
  have c4b0 : decide (Ab < 0) = false := decide_eq_false c4; clear c4; obtain rfl := Option.some.inj H
  go_enter Try.func12, Try.ntmps12
  go_wp2_with (first | ((with_reducible refine gate_dst (N := 2) rfl ?_); refine bxE 2 #[.int .i64 Ag, .int .i64 Ah, .slice Ad Aa.length Ae] 24 ?_; intro Am hg w7 hbox hb; have Ac := aM (hbox); have An := gwS hg Z0; have Af := gwS hg Z0; replace HB := hbS Z0 hb; clear hb hbox hg; obtain ⟨Aw, Ax, Ay⟩ := bz3 Ac; obtain ⟨Az, Ba, Bb⟩ := fz3 Ac) | ((with_reducible refine gate_callee (f := 42) rfl ?_); refine glE (some 8) Try.func42 #[.slice Ad Aa.length Ae, .int .i64 a1] ?_; (with_reducible refine (laws_szIntS.calls _ _ Aa a1 Ab _ ?side1 ?side2 A3.out).mono ?_); (case side1 => exact Z63); (case side2 => exact Al.out); rintro e w' ⟨rfl, ⟨nd, rfl⟩⟩; refine ⟨_, rfl, ?_⟩))
  go_ret
  exact ⟨Z4, Z2⟩
def laws_toIntS.l0 : Nat → List Int → List Int → Int → Option (List Int)
 | 0, _, _, _ => none
 | k + 1, x0, x3, x4 => if x4 < (x0.length : Int) then (if 0 ≤ x4 then (if x4 < (x3.length : Int) then (laws_toIntS.l0 k x0 (x3.set (x4 : Int).toNat (rd x0 x4)) (wrap64 (x4 + 1))) else (none)) else (none)) else (some x3)
def laws_toIntS.f (k : Nat) (l0 : List Int) : Option (List Int) := if 0 ≤ (l0.length : Int) then (if ((l0.length : Int) : Int).toNat ≤ 35184372088832 then (laws_toIntS.l0 k l0 (List.replicate ((l0.length : Int) : Int).toNat 0) 0) else (none)) else (none)
theorem laws_toIntS.calls (k : Nat) (A0 : Option Addr) (c0 : Nat) (l0 : List Int) (r : List Int) (w : World) (Au : Kd.C (Kd.int .i64) w A0 l0.length l0) (Av : l0.length ≤ c0) (h : laws_toIntS.f k l0 = some r) :
  Calls Try.prog 28 #[.slice A0 l0.length c0] w fun e w' => ∃ v0_ : Value, e = .returned (v0_) ∧ Kd.R (Kd.int .i64) 3 w' w.heap.size (fun _ => True) v0_ r ∧ Below w.heap.size w w' := by
 have Ba := Aside0.mk Au; have Bd := Aside0.mk Av; clear Au Av; have HB := aM (Below.refl w.heap.size w); have H : (if 0 ≤ (l0.length : Int) then (if ((l0.length : Int) : Int).toNat ≤ 35184372088832 then (laws_toIntS.l0 k l0 (List.replicate ((l0.length : Int) : Int).toNat 0) 0) else (none)) else (none)) = some r := h; clear h
 by_cases c2 : 0 ≤ (l0.length : Int)
 ·rw [if_pos c2] at H
  have c2b0 := eq_true c2; have c2b1 : decide (0 ≤ (l0.length : Int)) = true := decide_eq_true c2; clear c2
  by_cases c3 : ((l0.length : Int) : Int).toNat ≤ 35184372088832
  ·rw [if_pos c3] at H
   have c3b0 := eq_true c3; have c3b1 : decide (((l0.length : Int) : Int).toNat ≤ 35184372088832) = true := decide_eq_true c3; clear c3; obtain ⟨Al, Ac⟩ : ∃ y_ : List Int, y_ = (List.replicate ((l0.length : Int) : Int).toNat 0) := ⟨_, rfl⟩
   replace H : (laws_toIntS.l0 k l0 Al 0) = some r := by first | (rw [Ac]; with_reducible exact H) | (have H2_ := (Option.bind_some _ _).symm.trans H; rw [Ac]; with_reducible exact H2_) | (have H2_ := (Option.bind_some _ _).symm.trans H; with_reducible exact H2_) | with_reducible exact H | (rw [Ac]; exact H) | exact H
   have Ag := Aside0.mk Ac; clear Ac; have H' := Aside0.mk H; clear H
   go_enter Try.func28, Try.ntmps28
   go_wp2_with (first | ((with_reducible refine gate_dst (N := 7) rfl ?_); refine Kd.R_make (Kd.int .i64) _ 3 rfl (N := 7) rfl 22 _ _ rfl (l0.length : Int) rfl rfl Try.underlying22 (.int .i64 0) 8 info3 rfl (by decide) (by omega) 0 (ok := fun _ => True) (okp := fun _ => True) rfl (fun _ hk => hk) trivial (of_decide_eq_true Z3) (Nat.le_trans (Nat.mul_le_mul_right _ (of_decide_eq_true Z3 : (l0.length : Int).toNat ≤ 35184372088832)) (by omega)) (Below.refl _ _) (Nat.le_refl _) ?_; intro Ap w4 Am hb hg_ hnew_; clear hg_ hnew_; (first | rw [← Ag.out] at Am | (simp only [Int.reduceToNat] at Am; rw [← Ag.out] at Am)); have An := aM (Kd.R_lower Am (below_size Z0)); replace HB := hbS Z0 hb; clear hb Am))
   go_loopg [4] k (fun kq v4 w' => ∃ (Ad : List Int) (Aa : Int), v4 = .int .i64 Aa ∧ Aside0 (laws_toIntS.l0 kq l0 Ad Aa = some r) ∧ Aside0 (kq ≤ k) ∧ Aside0 (Kd.R (Kd.int .i64) 3 w' w.heap.size (fun _ => True) Ap Ad) ∧ Aside0 (Below w.heap.size w w'))
   case atStart => exact ⟨(Al), (0), Z5, H', ⟨Nat.le_refl _⟩, ⟨Z41⟩, ⟨Z0⟩⟩
   case round =>
    clear H'; (try clear c2); (try clear c2b0); (try clear c2b1); (try clear p2); (try clear c3); (try clear c3b0); (try clear c3b1); obtain ⟨Ad, Aa, rfl, HA, HK1, Af, HB⟩ := hrel; cases gk with
    | zero => exact absurd HA.out (by simp [laws_toIntS.l0])
    | succ k1 =>
     have H := HA.out; clear HA
     simp only [laws_toIntS.l0] at H
     by_cases c6 : Aa < (l0.length : Int)
     ·rw [if_pos c6] at H
      have c6b0 : decide (Aa < (l0.length : Int)) = true := decide_eq_true c6; clear c6
      by_cases c7 : 0 ≤ Aa
      ·rw [if_pos c7] at H
       have c7b0 : decide (0 ≤ Aa) = true := decide_eq_true c7; clear c7
       by_cases c8 : Aa < (Ad.length : Int)
       ·rw [if_pos c8] at H
        have c8b0 : decide (Aa < (Ad.length : Int)) = true := decide_eq_true c8; clear c8; obtain ⟨Ah, Ae⟩ : ∃ y_ : List Int, y_ = (Ad.set (Aa : Int).toNat (rd l0 Aa)) := ⟨_, rfl⟩
        replace H : (laws_toIntS.l0 k1 l0 Ah (wrap64 (Aa + 1))) = some r := by first | (rw [Ae]; with_reducible exact H) | (have H2_ := (Option.bind_some _ _).symm.trans H; rw [Ae]; with_reducible exact H2_) | (have H2_ := (Option.bind_some _ _).symm.trans H; with_reducible exact H2_) | with_reducible exact H | (rw [Ae]; exact H) | exact H
        have Ao := Aside0.mk Ae; clear Ae; have H' := Aside0.mk H; clear H; have Ai : 0 ≤ (Aa : Int) := of_decide_eq_true Z3; have Aj : Aa < (l0.length : Int) := of_decide_eq_true Z3; obtain ⟨ad106, e106, Ab⟩ := Kd.at_int Ba.out Aa Ai Aj; cases e106; replace Ab := (HB.out.cell (World.block_lt_of_cell? w _ Ab)).trans Ab; replace Ai := eq_true Ai; replace Aj := eq_true Aj; have p9 : 0 ≤ (Aa : Int) := of_decide_eq_true Z3; have q9 : (Aa : Int) < ((Ad.length : Int) : Int) := of_decide_eq_true Z3; obtain ⟨Aq, Bb, Aw, Ax, gl9, cl9, HG9⟩ := Kd.R_form Af.out (by omega)
        (first | cases Aw | (injection Aw with ea_ en_ ec_; (first | subst ea_ | (injection ea_ with ea_; subst ea_)); subst ec_; clear en_))
        have Bc := Aside0.mk Ax; have Bf := Aside0.mk HG9; clear Ax gl9 HG9; obtain ⟨Ay, Az⟩ := Kd.R_celln 0 Af.out (Aa : Int) p9 q9; replace p9 := eq_true p9; replace q9 := eq_true q9; have Ak := Kd.R_putg Af.out (Aa : Int) (rd l0 Aa)
        go_wp2_with (first | ((with_reducible refine gate_store (t := 3) (p := 20) rfl ?_); refine store_event (t := 3) (p := 20) (v := ?vo_w11) (w1 := (wr.setCell ⟨Aq, (Aa : Int).toNat, none⟩ (.int .i64 (rd l0 Aa)))) ?hg ?ho ?hn ?hr ?_; (case ho => rfl); (case hg => rfl); (case hn => rfl); (case hr => first | (go_simp; done) | (go_simp; rfl)); intro Ar hw; have hg : wr.grownBy Ar (some Aq) := (by rw [hw]; exact Ak.2); have hp_ : Kd.R (Kd.int .i64) 3 Ar w.heap.size (fun _ => True) (.slice (some ⟨Aq, 0, none⟩) Ad.length Bb) Ah := (by rw [hw, Ao.out]; exact Ak.1); clear Ak; replace Af := aM (hp_); replace HB := aM ((by rw [hw]; exact below_set (HB.out) Bc.out : Below w.heap.size w Ar)); clear hg hw hp_))
        go_roundg k1
        case measure => have := HK1.out; omega
        case rel => exact ⟨(Ah), (wrap64 (Aa + 1)), Z5, H', ⟨Z62⟩, ⟨Z30⟩, ⟨Z0⟩⟩
       ·rw [if_neg c8] at H
        exact absurd H (by simp)
      ·rw [if_neg c7] at H
       exact absurd H (by simp)
     ·rw [if_neg c6] at H
      have c6b0 : decide (Aa < (l0.length : Int)) = false := decide_eq_false c6; clear c6; obtain rfl := Option.some.inj H
      go_wp2
      go_ret
      exact ⟨_, Z4, Z30, Z0⟩
  ·rw [if_neg c3] at H
   exact absurd H (by simp)
 ·rw [if_neg c2] at H
  exact absurd H (by simp)
def laws_toChart.f (k : Nat) (a0_0 : Int) (a0_1 : Int) (l0_2 : List Int) : Option (Int × Int × List Int) := (laws_toIntS.f k l0_2).bind fun t111 => (some (a0_0, a0_1, t111))
theorem laws_toChart.calls (k : Nat) (Af : Int) (Ai : Int) (Ar : Option Addr) (Au : Nat) (Aj : List Int) (r1 : Int) (r2 : Int) (r3 : List Int) (w : World) (Av : Kd.C (Kd.int .i64) w Ar Aj.length Aj) (Aw : Aj.length ≤ Au) (h : laws_toChart.f k Af Ai Aj = some (r1, r2, r3)) :
  Calls Try.prog 14 #[.agg #[.int .i64 Af, .int .i64 Ai, .slice Ar Aj.length Au]] w fun e w' => ∃ v2_ : Value, e = .returned (.agg #[.int .i64 r1, .int .i64 r2, v2_]) ∧ Kd.R (Kd.int .i64) 3 w' w.heap.size (fun _ => True) v2_ r3 ∧ Below w.heap.size w w' := by
 have hu24 := Try.underlying24; have hu28 := Try.underlying28; have Bb := Aside0.mk Av; have Bc := Aside0.mk Aw; clear Av Aw; have HB := aM (Below.refl w.heap.size w); have H : ((laws_toIntS.f k Aj).bind fun Al => (some (Af, Ai, Al))) = some (r1, r2, r3) := h; clear h; replace H := Option.bind_eq_some_iff.mp H; obtain ⟨Al, B7, H⟩ := H; replace H : (some (Af, Ai, Al)) = some (r1, r2, r3) := H; have A2 := Aside0.mk B7; clear B7
 simp only [Option.some.injEq, Prod.mk.injEq] at H
 obtain ⟨rfl, rfl, rfl⟩ := H
 go_enter Try.func14, Try.ntmps14
 go_wp2_with (first | ((with_reducible refine gate_dst (N := 1) rfl ?_); refine bxE 1 #[.int .i64 Af, .int .i64 Ai, .slice Ar Aj.length Au] 24 ?_; intro Bd hg w3 hbox hb; have Aa := aM (hbox); have Ca := gwS hg Z0; have Ac := gwS hg Z0; replace HB := hbS Z0 hb; clear hb hbox hg) | ((with_reducible refine gate_dst (N := 2) rfl ?_); refine bxE 2 #[.int .i64 0, .int .i64 0, .slice none 0 0] 28 ?_; intro Ak hg w4 hbox hb; have Ad := aM (hbox); have Cb := gwS hg Z1; have Ag := gwS hg Z1; replace HB := hbS Z1 hb; have An := nbL hg Aa; have Ao := nbG hg Aa; replace Aa := bkB Aa hb; clear hb hbox hg) | ((with_reducible refine gate_dst (N := 3) rfl ?_); refine bxE 3 #[.int .i64 0, .int .i64 0, .slice none 0 0] 28 ?_; intro Ax hg w5 hbox hb; have Ah := aM (hbox); have Cc := gwS hg Z47; have Am := gwS hg Z47; replace HB := hbS Z47 hb; have Ae := nbL hg Aa; have Ap := nbG hg Aa; replace Aa := bkB Aa hb; have Ab := nbL hg Ad; have Aq := nbG hg Ad; replace Ad := bkB Ad hb; clear hb hbox hg; have Ce := An.out; have Cf := Ao.out; have Cg := Ae.out; have Ch := Ap.out; obtain ⟨Bx, Bz, B0⟩ := bz3 Aa; obtain ⟨B2, B4, B5⟩ := fz3 Aa; have Ci := Aq.out; have Cj := Ab.out; obtain ⟨Bf, Bg, Bh⟩ := bz3 Ah; obtain ⟨Bi, Bj, Bk⟩ := fz3 Ah) | ((with_reducible refine gate_callee (f := 28) rfl ?_); refine glE (some 12) Try.func28 #[.slice Ar Aj.length Au] ?_; (with_reducible refine (laws_toIntS.calls k _ _ Aj Al _ ?side1 ?side2 A2.out).mono ?_); (case side1 => exact Kd.C_below Bb.out Z36); (case side2 => exact Bc.out); rintro e Cl ⟨Ck, rfl, Cd, hb⟩; refine ⟨_, rfl, ?_⟩; have Ay := aM (Kd.R_lower Cd (below_size Z36)); replace Aa := aM (blk_below (g := Bd) (o := .cells #[.int .i64 Af, .int .i64 Ai, .slice Ar Aj.length Au] 24 (0, 0)) (by (with_reducible repeat (first | refine blk_drewN ?_ _ | refine blk_drew ?_ | refine blk_alloc ?_ _)); refine blk_far ?_ Ae.out _; (with_reducible repeat (first | refine blk_drewN ?_ _ | refine blk_drew ?_ | refine blk_alloc ?_ _)); refine blk_far ?_ Ae.out _; (with_reducible repeat (first | refine blk_drewN ?_ _ | refine blk_drew ?_ | refine blk_alloc ?_ _)); exact Aa.out) hb); replace Ad := aM (blk_below (g := Ak) (o := .cells #[.int .i64 0, .int .i64 0, .slice none 0 0] 28 (0, 0)) (by (with_reducible repeat (first | refine blk_drewN ?_ _ | refine blk_drew ?_ | refine blk_alloc ?_ _)); refine blk_far ?_ Ab.out _; (with_reducible repeat (first | refine blk_drewN ?_ _ | refine blk_drew ?_ | refine blk_alloc ?_ _)); refine blk_far ?_ Ab.out _; (with_reducible repeat (first | refine blk_drewN ?_ _ | refine blk_drew ?_ | refine blk_alloc ?_ _)); exact Ad.out) hb); replace Ah := aM (blk_below (g := Ax) (o := .cells #[.int .i64 Af, .int .i64 Ai, .slice none 0 0] 28 (0, 0)) (by (with_reducible repeat (first | refine blk_drewN ?_ _ | refine blk_drew ?_ | refine blk_alloc ?_ _)); refine blk_put (cs := #[.int .i64 Af, .int .i64 0, .slice none 0 0]) ?_ 1 _ rfl; (with_reducible repeat (first | refine blk_drewN ?_ _ | refine blk_drew ?_ | refine blk_alloc ?_ _)); refine blk_put (cs := #[.int .i64 0, .int .i64 0, .slice none 0 0]) ?_ 0 _ rfl; (with_reducible repeat (first | refine blk_drewN ?_ _ | refine blk_drew ?_ | refine blk_alloc ?_ _)); exact Ah.out) hb); replace HB := hbS Z36 hb; (try clear hb); (try clear Cd); obtain ⟨Az, Ba, B6⟩ := Kd.R_slice Ay.out; subst B6; obtain ⟨Bl, Bm, Bn⟩ := bz3 Ah; obtain ⟨Bo, Bp, Bq⟩ := fz3 Ah; obtain ⟨Br, Bs, Bt⟩ := bz3 Ad; obtain ⟨Bu, Bv, Bw⟩ := fz3 Ad))
 refine bodyPost_ret (results_cell_row rfl _ _ Ak 28 #[.int .i64 Af, .int .i64 Ai, .slice Az Al.length Ba] (0, 0) _ rfl (by (with_reducible repeat (first | refine blk_drewN ?_ _ | refine blk_drew ?_ | refine blk_alloc ?_ _)); refine blk_put (cs := #[.int .i64 Af, .int .i64 Ai, .slice none 0 0]) ?_ 2 _ rfl; (with_reducible repeat (first | refine blk_drewN ?_ _ | refine blk_drew ?_ | refine blk_alloc ?_ _)); refine blk_put (cs := #[.int .i64 Af, .int .i64 0, .slice none 0 0]) ?_ 1 _ rfl; (with_reducible repeat (first | refine blk_drewN ?_ _ | refine blk_drew ?_ | refine blk_alloc ?_ _)); refine blk_put (cs := #[.int .i64 0, .int .i64 0, .slice none 0 0]) ?_ 0 _ rfl; (with_reducible repeat (first | refine blk_drewN ?_ _ | refine blk_drew ?_ | refine blk_alloc ?_ _)); refine blk_far ?_ Ab.out _; (with_reducible repeat (first | refine blk_drewN ?_ _ | refine blk_drew ?_ | refine blk_alloc ?_ _)); exact Ad.out) Try.underlying28 rfl Z35) rfl ?_
 exact ⟨_, Z4, by (with_reducible repeat (first | apply Kd.R_alloc | apply Kd.R_drewN | apply Kd.R_drew)); exact Kd.R_mono (Kd.R_far (p := ⟨Ak, 2, none⟩) (Kd.R_far (p := ⟨Ak, 1, none⟩) (Kd.R_far (p := ⟨Ak, 0, none⟩) (Kd.R_far (p := ⟨Ax, 2, none⟩) (Kd.R_types (Kd.R_types Ay.out Ah.out (by decide)) Ad.out (by decide)) (fun _ hk => hk.1.2) (.slice Az Al.length Ba)) (fun _ hk => hk.2) (.int .i64 Af)) (fun _ hk => hk.2) (.int .i64 Ai)) (fun _ hk => hk.2) (.slice Az Al.length Ba)) (fun _ hk => trivial), Z36⟩
def laws_eqIntS.l0 : Nat → List Int → List Int → Int → Option (Bool)
 | 0, _, _, _ => none
 | k + 1, x0, x1, x5 => if x5 < (x0.length : Int) then (if 0 ≤ x5 then (if x5 < (x1.length : Int) then (if (rd x0 x5) = (rd x1 x5) then (laws_eqIntS.l0 k x0 x1 (wrap64 (x5 + 1))) else (some false)) else (none)) else (none)) else (some true)
def laws_eqIntS.f (k : Nat) (l0 : List Int) (l1 : List Int) : Option (Bool) := if (l0.length : Int) = (l1.length : Int) then (laws_eqIntS.l0 k l0 l1 0) else (some false)
theorem laws_eqIntS.calls (k : Nat) (A0 : Option Addr) (c0 : Nat) (l0 : List Int) (A1 : Option Addr) (c1 : Nat) (l1 : List Int) (r : Bool) (w : World) (Ah : Kd.C (Kd.int .i64) w A0 l0.length l0) (Ai : l0.length ≤ c0) (Aj : Kd.C (Kd.int .i64) w A1 l1.length l1) (Ak : l1.length ≤ c1) (h : laws_eqIntS.f k l0 l1 = some r) :
  Calls Try.prog 19 #[.slice A0 l0.length c0, .slice A1 l1.length c1] w fun e w' => e = .returned (.bool r) ∧ Drawn0 w w' := by
 have Al := Aside0.mk Ah; have An := Aside0.mk Ai; clear Ah Ai; have Am := Aside0.mk Aj; have Ao := Aside0.mk Ak; clear Aj Ak; have H : (if (l0.length : Int) = (l1.length : Int) then (laws_eqIntS.l0 k l0 l1 0) else (some false)) = some r := h; clear h
 by_cases c3 : (l0.length : Int) = (l1.length : Int)
 ·rw [if_pos c3] at H
  have c3b0 : ((l0.length : Int) == (l1.length : Int)) = true := beq_iff_eq.mpr c3; have c3b1 : ((l0.length : Int) != (l1.length : Int)) = false := bne_eq_false_iff_eq.mpr c3
  have c3b2 : (l0.length == l1.length) = true := by first | simpa using c3 | (simp at c3 ⊢; omega)
  clear c3; have H' := Aside0.mk H; clear H
  go_enter Try.func19, Try.ntmps19
  go_wp2
  repeat (go_quiet (fail); try go_wp2)
  go_loopg [5] k (fun kq v5 w' => ∃ (Aa : Int), v5 = .int .i64 Aa ∧ Aside0 (laws_eqIntS.l0 kq l0 l1 Aa = some r) ∧ Aside0 (kq ≤ k) ∧ Drawn0 w w')
  case atStart => exact ⟨(0), Z5, H', ⟨Nat.le_refl _⟩, Z23⟩
  case round =>
   clear H'; (try clear c1); (try clear p2); (try clear c3); (try clear c3b0); (try clear c3b1); (try clear c3b2); obtain ⟨Aa, rfl, HA, HK1, ⟨m1, rfl⟩⟩ := hrel; cases gk with
   | zero => exact absurd HA.out (by simp [laws_eqIntS.l0])
   | succ k1 =>
    have H := HA.out; clear HA
    simp only [laws_eqIntS.l0] at H
    by_cases c4 : Aa < (l0.length : Int)
    ·rw [if_pos c4] at H
     have c4b0 : decide (Aa < (l0.length : Int)) = true := decide_eq_true c4; clear c4
     by_cases c5 : 0 ≤ Aa
     ·rw [if_pos c5] at H
      have c5b0 : decide (0 ≤ Aa) = true := decide_eq_true c5; clear c5
      by_cases c6 : Aa < (l1.length : Int)
      ·rw [if_pos c6] at H
       have c6b0 : decide (Aa < (l1.length : Int)) = true := decide_eq_true c6; clear c6
       by_cases c7 : (rd l0 Aa) = (rd l1 Aa)
       ·rw [if_pos c7] at H
        have c7b0 : ((rd l0 Aa) == (rd l1 Aa)) = true := beq_iff_eq.mpr c7; have c7b1 : ((rd l0 Aa) != (rd l1 Aa)) = false := bne_eq_false_iff_eq.mpr c7; clear c7; have H' := Aside0.mk H; clear H; have Ab : 0 ≤ (Aa : Int) := of_decide_eq_true Z3; have Ac : Aa < (l0.length : Int) := of_decide_eq_true Z3; obtain ⟨ad114, e114, Af⟩ := Kd.at_int Al.out Aa Ab Ac; cases e114; replace Ab := eq_true Ab; replace Ac := eq_true Ac; have Ad : 0 ≤ (Aa : Int) := of_decide_eq_true Z3; have Ae : Aa < (l1.length : Int) := of_decide_eq_true Z3; obtain ⟨ad115, e115, Ag⟩ := Kd.at_int Am.out Aa Ad Ae; cases e115; replace Ad := eq_true Ad; replace Ae := eq_true Ae
        go_wp2
        repeat (go_quiet (fail); try go_wp2)
        go_roundg k1
        case measure => have := HK1.out; omega
        case rel => exact ⟨(wrap64 (Aa + 1)), Z5, H', ⟨Z62⟩, Z23⟩
       ·rw [if_neg c7] at H
        have c7b0 : ((rd l0 Aa) == (rd l1 Aa)) = false := beq_eq_false_iff_ne.mpr c7; have c7b1 : ((rd l0 Aa) != (rd l1 Aa)) = true := bne_iff_ne.mpr c7; obtain rfl := Option.some.inj H; have Ab : 0 ≤ (Aa : Int) := of_decide_eq_true Z3; have Ac : Aa < (l0.length : Int) := of_decide_eq_true Z3; obtain ⟨ad114, e114, Af⟩ := Kd.at_int Al.out Aa Ab Ac; cases e114; replace Ab := eq_true Ab; replace Ac := eq_true Ac; have Ad : 0 ≤ (Aa : Int) := of_decide_eq_true Z3; have Ae : Aa < (l1.length : Int) := of_decide_eq_true Z3; obtain ⟨ad115, e115, Ag⟩ := Kd.at_int Am.out Aa Ad Ae; cases e115; replace Ad := eq_true Ad; replace Ae := eq_true Ae
        go_wp2
        repeat (go_quiet (fail); try go_wp2)
        go_ret
        exact ⟨Z5, Z23⟩
      ·rw [if_neg c6] at H
       exact absurd H (by simp)
     ·rw [if_neg c5] at H
      exact absurd H (by simp)
    ·rw [if_neg c4] at H
     have c4b0 : decide (Aa < (l0.length : Int)) = false := decide_eq_false c4; clear c4; obtain rfl := Option.some.inj H
     go_wp2
     repeat (go_quiet (fail); try go_wp2)
     go_ret
     exact ⟨Z5, Z23⟩
 ·rw [if_neg c3] at H
  have c3b0 : ((l0.length : Int) == (l1.length : Int)) = false := beq_eq_false_iff_ne.mpr c3; have c3b1 : ((l0.length : Int) != (l1.length : Int)) = true := bne_iff_ne.mpr c3
  have c3b2 : (l0.length == l1.length) = false := by first | simpa using c3 | (simp at c3 ⊢; omega)
  obtain rfl := Option.some.inj H
  go_enter Try.func19, Try.ntmps19
  go_wp2
  repeat (go_quiet (fail); try go_wp2)
  go_ret
  exact ⟨Z5, Z23⟩
def laws_eqChart.f (k : Nat) (a0_0 : Int) (a0_1 : Int) (l0_2 : List Int) (a1_0 : Int) (a1_1 : Int) (l1_2 : List Int) : Option (Bool) := if a0_0 = a1_0 then (if a0_1 = a1_1 then ((laws_eqIntS.f k l0_2 l1_2).bind fun t118 => (if t118 = true then (some true) else (some false))) else (some false)) else (some false)
theorem laws_eqChart.calls (k : Nat) (Ah : Int) (Ai : Int) (Am : Option Addr) (An : Nat) (Af : List Int) (Aj : Int) (Ak : Int) (Ao : Option Addr) (Ap : Nat) (Ag : List Int) (r : Bool) (w : World) (Ax : Kd.C (Kd.int .i64) w Am Af.length Af) (Ay : Af.length ≤ An) (Az : Kd.C (Kd.int .i64) w Ao Ag.length Ag) (Ba : Ag.length ≤ Ap) (h : laws_eqChart.f k Ah Ai Af Aj Ak Ag = some r) :
  Calls Try.prog 16 #[.agg #[.int .i64 Ah, .int .i64 Ai, .slice Am Af.length An], .agg #[.int .i64 Aj, .int .i64 Ak, .slice Ao Ag.length Ap]] w fun e w' => e = .returned (.bool r) ∧ Below w.heap.size w w' := by
 have hu28 := Try.underlying28; have Bb := Aside0.mk Ax; have Bc := Aside0.mk Ay; clear Ax Ay; have Bd := Aside0.mk Az; have Bf := Aside0.mk Ba; clear Az Ba; have HB := aM (Below.refl w.heap.size w); have H : (if Ah = Aj then (if Ai = Ak then ((laws_eqIntS.f k Af Ag).bind fun Aw => (if Aw = true then (some true) else (some false))) else (some false)) else (some false)) = some r := h; clear h
 by_cases c3 : Ah = Aj
 ·rw [if_pos c3] at H
  have c3b0 : (Ah == Aj) = true := beq_iff_eq.mpr c3; have c3b1 : (Ah != Aj) = false := bne_eq_false_iff_eq.mpr c3; clear c3
  by_cases c4 : Ai = Ak
  ·rw [if_pos c4] at H
   have c4b0 : (Ai == Ak) = true := beq_iff_eq.mpr c4; have c4b1 : (Ai != Ak) = false := bne_eq_false_iff_eq.mpr c4; clear c4; replace H := Option.bind_eq_some_iff.mp H; obtain ⟨Aw, Cx, H⟩ := H; replace H : (if Aw = true then (some true) else (some false)) = some r := H; have A5 := Aside0.mk Cx; clear Cx
   by_cases c6 : Aw = true
   ·subst c6
    have H1 : (some true) = some r := by rw [if_pos rfl] at H; exact H
    clear H; have H := H1; clear H1; obtain rfl := Option.some.inj H
    go_enter Try.func16, Try.ntmps16
    go_wp2_with (first | ((with_reducible refine gate_dst (N := 2) rfl ?_); refine bxE 2 #[.int .i64 Ah, .int .i64 Ai, .slice Am Af.length An] 28 ?_; intro Aq hg w7 hbox hb; have Aa := aM (hbox); have Ar := gwS hg Z0; have Ab := gwS hg Z0; replace HB := hbS Z0 hb; clear hb hbox hg) | ((with_reducible refine gate_dst (N := 3) rfl ?_); refine bxE 3 #[.int .i64 Aj, .int .i64 Ak, .slice Ao Ag.length Ap] 28 ?_; intro Au hg w8 hbox hb; have Ae := aM (hbox); have Av := gwS hg Z22; have Al := gwS hg Z22; replace HB := hbS Z22 hb; have Ac := nbL hg Aa; have Ad := nbG hg Aa; replace Aa := bkB Aa hb; clear hb hbox hg; have C5 := Ac.out; have C6 := Ad.out; obtain ⟨Bg, Bh, Bi⟩ := bz3 Aa; obtain ⟨Bj, Bk, Bl⟩ := fz3 Aa; obtain ⟨Bm, Bn, Bo⟩ := bz3 Ae; obtain ⟨Bp, Bq, Br⟩ := fz3 Ae) | ((with_reducible refine gate_callee (f := 19) rfl ?_); refine glE (some 19) Try.func19 #[.slice Am Af.length An, .slice Ao Ag.length Ap] ?_; (with_reducible refine (laws_eqIntS.calls k _ _ Af _ _ Ag true _ ?side1 ?side2 ?side3 ?side4 A5.out).mono ?_); (case side1 => exact Z64); (case side2 => exact Bc.out); (case side3 => exact Z65); (case side4 => exact Bf.out); rintro e w' ⟨rfl, ⟨nd, rfl⟩⟩; refine ⟨_, rfl, ?_⟩))
    go_ret
    exact ⟨Z4, Z39⟩
   ·replace c6 := Bool.eq_false_iff.mpr c6
    subst c6
    have H1 : (some false) = some r := by rw [if_neg (show ¬ (false = true) by decide)] at H; exact H
    clear H; have H := H1; clear H1; obtain rfl := Option.some.inj H
    go_enter Try.func16, Try.ntmps16
    go_wp2_with (first | ((with_reducible refine gate_dst (N := 2) rfl ?_); refine bxE 2 #[.int .i64 Ah, .int .i64 Ai, .slice Am Af.length An] 28 ?_; intro Aq hg C7 hbox hb; have Aa := aM (hbox); have Ar := gwS hg Z0; have Ab := gwS hg Z0; replace HB := hbS Z0 hb; clear hb hbox hg) | ((with_reducible refine gate_dst (N := 3) rfl ?_); refine bxE 3 #[.int .i64 Aj, .int .i64 Ak, .slice Ao Ag.length Ap] 28 ?_; intro Au hg C8 hbox hb; have Ae := aM (hbox); have Av := gwS hg Z22; have Al := gwS hg Z22; replace HB := hbS Z22 hb; have Ac := nbL hg Aa; have Ad := nbG hg Aa; replace Aa := bkB Aa hb; clear hb hbox hg; have Cy := Ac.out; have Cz := Ad.out; obtain ⟨Bs, Bt, Bu⟩ := bz3 Aa; obtain ⟨Bv, Bw, Bx⟩ := fz3 Aa; obtain ⟨Bz, B0, B2⟩ := bz3 Ae; obtain ⟨B4, B5, B6⟩ := fz3 Ae) | ((with_reducible refine gate_callee (f := 19) rfl ?_); refine glE (some 19) Try.func19 #[.slice Am Af.length An, .slice Ao Ag.length Ap] ?_; (with_reducible refine (laws_eqIntS.calls k _ _ Af _ _ Ag false _ ?side1 ?side2 ?side3 ?side4 A5.out).mono ?_); (case side1 => exact Z64); (case side2 => exact Bc.out); (case side3 => exact Z65); (case side4 => exact Bf.out); rintro e w' ⟨rfl, ⟨nd, rfl⟩⟩; refine ⟨_, rfl, ?_⟩))
    go_ret
    exact ⟨Z4, Z39⟩
  ·rw [if_neg c4] at H
   have c4b0 : (Ai == Ak) = false := beq_eq_false_iff_ne.mpr c4; have c4b1 : (Ai != Ak) = true := bne_iff_ne.mpr c4; obtain rfl := Option.some.inj H
   go_enter Try.func16, Try.ntmps16
   go_wp2_with (first | ((with_reducible refine gate_dst (N := 2) rfl ?_); refine bxE 2 #[.int .i64 Ah, .int .i64 Ai, .slice Am Af.length An] 28 ?_; intro Aq hg C9 hbox hb; have Aa := aM (hbox); have Ar := gwS hg Z0; have Ab := gwS hg Z0; replace HB := hbS Z0 hb; clear hb hbox hg) | ((with_reducible refine gate_dst (N := 3) rfl ?_); refine bxE 3 #[.int .i64 Aj, .int .i64 Ak, .slice Ao Ag.length Ap] 28 ?_; intro Au hg Da hbox hb; have Ae := aM (hbox); have Av := gwS hg Z22; have Al := gwS hg Z22; replace HB := hbS Z22 hb; have Ac := nbL hg Aa; have Ad := nbG hg Aa; replace Aa := bkB Aa hb; clear hb hbox hg; have C0 := Ac.out; have C1 := Ad.out; obtain ⟨B7, Ca, Cb⟩ := bz3 Aa; obtain ⟨Cc, Cd, Ce⟩ := fz3 Aa; obtain ⟨Cf, Cg, Ch⟩ := bz3 Ae; obtain ⟨Ci, Cj, Ck⟩ := fz3 Ae))
   go_ret
   exact ⟨Z4, Z39⟩
 ·rw [if_neg c3] at H
  have c3b0 : (Ah == Aj) = false := beq_eq_false_iff_ne.mpr c3; have c3b1 : (Ah != Aj) = true := bne_iff_ne.mpr c3; obtain rfl := Option.some.inj H
  go_enter Try.func16, Try.ntmps16
  go_wp2_with (first | ((with_reducible refine gate_dst (N := 2) rfl ?_); refine bxE 2 #[.int .i64 Ah, .int .i64 Ai, .slice Am Af.length An] 28 ?_; intro Aq hg Db hbox hb; have Aa := aM (hbox); have Ar := gwS hg Z0; have Ab := gwS hg Z0; replace HB := hbS Z0 hb; clear hb hbox hg) | ((with_reducible refine gate_dst (N := 3) rfl ?_); refine bxE 3 #[.int .i64 Aj, .int .i64 Ak, .slice Ao Ag.length Ap] 28 ?_; intro Au hg Dc hbox hb; have Ae := aM (hbox); have Av := gwS hg Z22; have Al := gwS hg Z22; replace HB := hbS Z22 hb; have Ac := nbL hg Aa; have Ad := nbG hg Aa; replace Aa := bkB Aa hb; clear hb hbox hg; have C3 := Ac.out; have C4 := Ad.out; obtain ⟨Cl, Cm, Cn⟩ := bz3 Aa; obtain ⟨Co, Cp, Cq⟩ := fz3 Aa; obtain ⟨Cr, Cs, Ct⟩ := bz3 Ae; obtain ⟨Cu, Cv, Cw⟩ := fz3 Ae))
  go_ret
  exact ⟨Z4, Z39⟩
mutual
def spec_l12Next.j0 : Nat → Int → Int → Int → List Int → Int → Int → List Int → Option (List Int)
 | 0, _, _, _, _, _, _, _ => none
 | k + 1, x1, x5, x6, x7, x120000, x120001, x120002 => if x6 > 0 then (if x7.length < 17592186044416 then (spec_l12Next.j1 k x1 x5 x6 (x7 ++ [wrap64 (x1 - 1)]) x120000 x120001 x120002) else (none)) else (spec_l12Next.j1 k x1 x5 x6 x7 x120000 x120001 x120002)
def spec_l12Next.j1 : Nat → Int → Int → Int → List Int → Int → Int → List Int → Option (List Int)
 | 0, _, _, _, _, _, _, _ => none
 | k + 1, x1, x5, x6, x7, x120000, x120001, x120002 => if x6 < (wrap64 (x120000 - 1)) then (if x7.length < 17592186044416 then ((some (x7 ++ [wrap64 (x1 + 1)] : List Int)).bind fun y129 => (if x5 < (wrap64 (x120001 - 1)) then (if y129.length < 17592186044416 then (some (y129 ++ [wrap64 (x1 + x120000)])) else (none)) else (some y129))) else (none)) else (if x5 < (wrap64 (x120001 - 1)) then (if x7.length < 17592186044416 then (some (x7 ++ [wrap64 (x1 + x120000)])) else (none)) else (some x7))
end
def spec_l12Next.f (k : Nat) (a0_0 : Int) (a0_1 : Int) (l0_2 : List Int) (a1 : Int) : Option (List Int) := if a0_0 = 0 then (none) else ((some (([] : List Int) : List Int)).bind fun y120 => (if (wrap64 (Int.tdiv a1 a0_0)) > 0 then (if y120.length < 17592186044416 then (spec_l12Next.j0 k a1 (wrap64 (Int.tdiv a1 a0_0)) (Int.tmod a1 a0_0) (y120 ++ [wrap64 (a1 - a0_0)]) a0_0 a0_1 l0_2) else (none)) else (spec_l12Next.j0 k a1 (wrap64 (Int.tdiv a1 a0_0)) (Int.tmod a1 a0_0) y120 a0_0 a0_1 l0_2)))
theorem spec_l12Next.calls (k : Nat) (Ab : Int) (Ad : Int) (Ah : Option Addr) (Ai : Nat) (Af : List Int) (a1 : Int) (r : List Int) (w : World) (Ce : Kd.C (Kd.int .i64) w Ah Af.length Af) (Cf : Af.length ≤ Ai) (h : spec_l12Next.f k Ab Ad Af a1 = some r) :
  Calls Try.prog 66 #[.agg #[.int .i64 Ab, .int .i64 Ad, .slice Ah Af.length Ai], .int .i64 a1] w fun e w' => ∃ v0_ : Value, e = .returned (v0_) ∧ Kd.R (Kd.int .i64) 3 w' w.heap.size (fun _ => True) v0_ r ∧ Below w.heap.size w w' := by
 have hu28 := Try.underlying28; have Dq := Aside0.mk Ce; have Dr := Aside0.mk Cf; clear Ce Cf; have HB := aM (Below.refl w.heap.size w); have H : (if Ab = 0 then (none) else ((some (([] : List Int) : List Int)).bind fun Am => (if (wrap64 (Int.tdiv a1 Ab)) > 0 then (if Am.length < 17592186044416 then (spec_l12Next.j0 k a1 (wrap64 (Int.tdiv a1 Ab)) (Int.tmod a1 Ab) (Am ++ [wrap64 (a1 - Ab)]) Ab Ad Af) else (none)) else (spec_l12Next.j0 k a1 (wrap64 (Int.tdiv a1 Ab)) (Int.tmod a1 Ab) Am Ab Ad Af)))) = some r := h; clear h
 by_cases c3 : Ab = 0
 ·rw [if_pos c3] at H
  exact absurd H (by simp)
 ·rw [if_neg c3] at H
  have c3b0 : (Ab == 0) = false := beq_eq_false_iff_ne.mpr c3; have c3b1 : (Ab != 0) = true := bne_iff_ne.mpr c3; obtain ⟨Am, Ay⟩ : ∃ y_ : List Int, y_ = (([] : List Int)) := ⟨_, rfl⟩
  replace H : (if (wrap64 (Int.tdiv a1 Ab)) > 0 then (if Am.length < 17592186044416 then (spec_l12Next.j0 k a1 (wrap64 (Int.tdiv a1 Ab)) (Int.tmod a1 Ab) (Am ++ [wrap64 (a1 - Ab)]) Ab Ad Af) else (none)) else (spec_l12Next.j0 k a1 (wrap64 (Int.tdiv a1 Ab)) (Int.tmod a1 Ab) Am Ab Ad Af)) = some r := by first | (rw [Ay]; with_reducible exact H) | (have H2_ := (Option.bind_some _ _).symm.trans H; rw [Ay]; with_reducible exact H2_) | (have H2_ := (Option.bind_some _ _).symm.trans H; with_reducible exact H2_) | with_reducible exact H | (rw [Ay]; exact H) | exact H
  have An := Aside0.mk Ay; clear Ay; have Dm := Aside0.mk H; clear H
  go_enter Try.func66, Try.ntmps66
  go_upto_if 18 with (first | ((with_reducible refine gate_dst (N := 2) rfl ?_); refine bxE 2 #[.int .i64 Ab, .int .i64 Ad, .slice Ah Af.length Ai] 28 ?_; intro Ag hg w5 hbox hb; have Aa := aM (hbox); have Cg := gwS hg Z0; have Ac := gwS hg Z0; replace HB := hbS Z0 hb; clear hb hbox hg; obtain ⟨Ap, Aq, Ar⟩ := bz3 Aa; obtain ⟨Au, Av, Aw⟩ := fz3 Aa) | ((with_reducible refine gate_dst (N := 16) rfl ?_); refine Kd.R_lit (Kd.int .i64) _ 3 ?hg (N := 16) ?hd (xs := ([] : List Int)) (inner := []) (ok := fun _ => True) (okp := fun _ => True) ?hr ?hp (fun _ hk => hk) trivial (Below.refl _ _) (Nat.le_refl _) (by simp) ?_; (case hd => rfl); (case hg => rfl); (case hr => first | (go_simp; done) | (go_simp; rfl)); (case hp => exact (Reps.none _ _)); intro B2 w7 Az hb hg_ hnew_; clear hg_ hnew_; (first | rw [← An.out] at Az | (simp only [Int.reduceToNat] at Az; rw [← An.out] at Az)); have Al := aM (Kd.R_lower Az (below_size Z1)); replace Aa := bkB Aa hb; replace HB := hbS Z1 hb; clear hb Az))
  repeat (go_quiet (first | ((with_reducible refine gate_dst (N := 2) rfl ?_); refine bxE 2 #[.int .i64 Ab, .int .i64 Ad, .slice Ah Af.length Ai] 28 ?_; intro Ag hg w5 hbox hb; have Aa := aM (hbox); have Cg := gwS hg Z0; have Ac := gwS hg Z0; replace HB := hbS Z0 hb; clear hb hbox hg; obtain ⟨Ap, Aq, Ar⟩ := bz3 Aa; obtain ⟨Au, Av, Aw⟩ := fz3 Aa) | ((with_reducible refine gate_dst (N := 16) rfl ?_); refine Kd.R_lit (Kd.int .i64) _ 3 ?hg (N := 16) ?hd (xs := ([] : List Int)) (inner := []) (ok := fun _ => True) (okp := fun _ => True) ?hr ?hp (fun _ hk => hk) trivial (Below.refl _ _) (Nat.le_refl _) (by simp) ?_; (case hd => rfl); (case hg => rfl); (case hr => first | (go_simp; done) | (go_simp; rfl)); (case hp => exact (Reps.none _ _)); intro B2 w7 Az hb hg_ hnew_; clear hg_ hnew_; (first | rw [← An.out] at Az | (simp only [Int.reduceToNat] at Az; rw [← An.out] at Az)); have Al := aM (Kd.R_lower Az (below_size Z1)); replace Aa := bkB Aa hb; replace HB := hbS Z1 hb; clear hb Az)); go_upto_if 18 with (first | ((with_reducible refine gate_dst (N := 2) rfl ?_); refine bxE 2 #[.int .i64 Ab, .int .i64 Ad, .slice Ah Af.length Ai] 28 ?_; intro Ag hg w5 hbox hb; have Aa := aM (hbox); have Cg := gwS hg Z0; have Ac := gwS hg Z0; replace HB := hbS Z0 hb; clear hb hbox hg; obtain ⟨Ap, Aq, Ar⟩ := bz3 Aa; obtain ⟨Au, Av, Aw⟩ := fz3 Aa) | ((with_reducible refine gate_dst (N := 16) rfl ?_); refine Kd.R_lit (Kd.int .i64) _ 3 ?hg (N := 16) ?hd (xs := ([] : List Int)) (inner := []) (ok := fun _ => True) (okp := fun _ => True) ?hr ?hp (fun _ hk => hk) trivial (Below.refl _ _) (Nat.le_refl _) (by simp) ?_; (case hd => rfl); (case hg => rfl); (case hr => first | (go_simp; done) | (go_simp; rfl)); (case hp => exact (Reps.none _ _)); intro B2 w7 Az hb hg_ hnew_; clear hg_ hnew_; (first | rw [← An.out] at Az | (simp only [Int.reduceToNat] at Az; rw [← An.out] at Az)); have Al := aM (Kd.R_lower Az (below_size Z1)); replace Aa := bkB Aa hb; replace HB := hbS Z1 hb; clear hb Az)))
  (try simp only [Act.put, List.setIfInBounds_toArray, List.set_cons_zero, List.set_cons_succ])
  go_cut [7] (fun v7 wc => ∃ (kq : Nat) (Ax : List Int), Aside0 (spec_l12Next.j0 kq a1 (wrap64 (Int.tdiv a1 Ab)) (Int.tmod a1 Ab) Ax Ab Ad Af = some r) ∧ Aside0 (kq ≤ k) ∧ Aside0 (Kd.R (Kd.int .i64) 3 wc w.heap.size (fun _ => True) v7 Ax) ∧ Aside0 (wc.heap[Ag]? = some (.cells #[.int .i64 Ab, .int .i64 Ad, (.slice Ah Af.length Ai)] 28 (0, 0))) ∧ Aside0 (Below w.heap.size w wc))
  case first =>
   have H := Dm.out; clear Dm
   by_cases c9 : (wrap64 (Int.tdiv a1 Ab)) > 0
   ·rw [if_pos c9] at H
    have c9b0 : decide (0 < (wrap64 (Int.tdiv a1 Ab))) = true := decide_eq_true c9; clear c9
    (first | rw [c9b0] | (simp only [i64_w, i32_w]; rw [c9b0]) | skip)
    by_cases Cj : Am.length < 17592186044416
    ·rw [if_pos Cj] at H
     have LMc10 := Aside0.mk Cj; clear Cj; obtain ⟨Cn, Ba⟩ : ∃ y_ : List Int, y_ = (Am ++ [wrap64 (a1 - Ab)]) := ⟨_, rfl⟩
     replace H : (spec_l12Next.j0 k a1 (wrap64 (Int.tdiv a1 Ab)) (Int.tmod a1 Ab) Cn Ab Ad Af) = some r := by first | (rw [Ba]; with_reducible exact H) | (have H2_ := (Option.bind_some _ _).symm.trans H; rw [Ba]; with_reducible exact H2_) | (have H2_ := (Option.bind_some _ _).symm.trans H; with_reducible exact H2_) | with_reducible exact H | (rw [Ba]; exact H) | exact H
     have B4 := Aside0.mk Ba; clear Ba; have H' := Aside0.mk H; clear H; obtain ⟨Bi, Bj, Bk⟩ := bz3 Aa; obtain ⟨Bl, Bm, Bn⟩ := fz3 Aa
     go_wp2_with (first | ((with_reducible refine gate_builtin (b := .append) (xs := #[.tmp 19, .tmp 24]) rfl ?_); at_builtin; refine Kd.R_append (Kd.int .i64) (w0 := w) w.heap.size rfl (.tmp 19) (.tmp 24) 22 3 (.int .i64 0) 8 rfl Try.underlying22 info3 rfl (by decide) (by omega) B2 Am (wrap64 (a1 - Ab)) [.int .i64 (wrap64 (a1 - Ab))] (fun _ => True) (fun _ => False) rfl rfl ?aP (fun _ hk => hk.elim) ?aF ?aO ?aB ?aS ?aL ?_; (case aP => exact rfl); (case aB => exact Z1); (case aF => exact (fun _ _ => trivial)); (case aO => exact Z27); (case aS => exact (below_size Z1)); (case aL => have := LMc10.out; omega); intro Co Ds ho hb hg hat; rw [← B4.out] at ho; replace Aa := aM (blk_grown (g := Ag) (o := .cells #[.int .i64 Ab, .int .i64 Ad, .slice Ah Af.length Ai] 28 (0, 0)) Z12 hg (Kd.R_ne Al.out Aa.out (by decide))); replace HB := aM (hb); have B5 := aM (ho); clear Al; clear ho hb hg hat))
     repeat (go_quiet (first | ((with_reducible refine gate_builtin (b := .append) (xs := #[.tmp 19, .tmp 24]) rfl ?_); at_builtin; refine Kd.R_append (Kd.int .i64) (w0 := w) w.heap.size rfl (.tmp 19) (.tmp 24) 22 3 (.int .i64 0) 8 rfl Try.underlying22 info3 rfl (by decide) (by omega) B2 Am (wrap64 (a1 - Ab)) [.int .i64 (wrap64 (a1 - Ab))] (fun _ => True) (fun _ => False) rfl rfl ?aP (fun _ hk => hk.elim) ?aF ?aO ?aB ?aS ?aL ?_; (case aP => exact rfl); (case aB => exact Z1); (case aF => exact (fun _ _ => trivial)); (case aO => exact Z27); (case aS => exact (below_size Z1)); (case aL => have := LMc10.out; omega); intro Co Ds ho hb hg hat; rw [← B4.out] at ho; replace Aa := aM (blk_grown (g := Ag) (o := .cells #[.int .i64 Ab, .int .i64 Ad, .slice Ah Af.length Ai] 28 (0, 0)) Z12 hg (Kd.R_ne Al.out Aa.out (by decide))); replace HB := aM (hb); have B5 := aM (ho); clear Al; clear ho hb hg hat)); try go_wp2_with (first | ((with_reducible refine gate_builtin (b := .append) (xs := #[.tmp 19, .tmp 24]) rfl ?_); at_builtin; refine Kd.R_append (Kd.int .i64) (w0 := w) w.heap.size rfl (.tmp 19) (.tmp 24) 22 3 (.int .i64 0) 8 rfl Try.underlying22 info3 rfl (by decide) (by omega) B2 Am (wrap64 (a1 - Ab)) [.int .i64 (wrap64 (a1 - Ab))] (fun _ => True) (fun _ => False) rfl rfl ?aP (fun _ hk => hk.elim) ?aF ?aO ?aB ?aS ?aL ?_; (case aP => exact rfl); (case aB => exact Z1); (case aF => exact (fun _ _ => trivial)); (case aO => exact Z27); (case aS => exact (below_size Z1)); (case aL => have := LMc10.out; omega); intro Co Ds ho hb hg hat; rw [← B4.out] at ho; replace Aa := aM (blk_grown (g := Ag) (o := .cells #[.int .i64 Ab, .int .i64 Ad, .slice Ah Af.length Ai] 28 (0, 0)) Z12 hg (Kd.R_ne Al.out Aa.out (by decide))); replace HB := aM (hb); have B5 := aM (ho); clear Al; clear ho hb hg hat)))
     go_meet
     case rel => exact ⟨_, (Cn), H', ⟨Z84⟩, ⟨by (with_reducible repeat (first | apply Kd.R_alloc | apply Kd.R_drewN | apply Kd.R_drew)); exact B5.out⟩, ⟨Z12⟩, ⟨Z1⟩⟩
    ·rw [if_neg Cj] at H
     exact absurd H (by simp)
   ·rw [if_neg c9] at H
    have c9b0 : decide (0 < (wrap64 (Int.tdiv a1 Ab))) = false := decide_eq_false c9; clear c9
    (first | rw [c9b0] | (simp only [i64_w, i32_w]; rw [c9b0]) | skip)
    have H' := Aside0.mk H; clear H
    go_wp2
    repeat (go_quiet (fail); try go_wp2)
    go_meet
    case rel => exact ⟨_, (Am), H', ⟨Z84⟩, ⟨Z27⟩, ⟨Z12⟩, ⟨Z1⟩⟩
  case rest =>
   clear Dm; (try clear c1); (try clear p2); (try clear c3); (try clear c3b0); (try clear c3b1); (try clear c6); (try clear p6); (try clear c9); (try clear c9b0); (try clear Cj); (try clear Bi); (try clear Bj); (try clear Bk); (try clear Ap); (try clear Aq); (try clear Ar); (try clear Bl); (try clear Bm); (try clear Bn); (try clear Au); (try clear Av); (try clear Aw); obtain ⟨kq, Ax, HA, HJ3, Ae, Aa, HB⟩ := hcut; cases kq with
   | zero => exact absurd HA.out (by simp [spec_l12Next.j0])
   | succ Dt =>
    have H := HA.out; clear HA
    simp only [spec_l12Next.j0] at H
    have Ch := Aside0.mk H; clear H
    go_upto_if 27 with (fail)
    repeat (go_quiet (fail); go_upto_if 27 with (fail))
    go_cut [7] (fun v7 wc => ∃ (kq : Nat) (Aj : List Int), Aside0 (spec_l12Next.j1 kq a1 (wrap64 (Int.tdiv a1 Ab)) (Int.tmod a1 Ab) Aj Ab Ad Af = some r) ∧ Aside0 (kq ≤ Dt) ∧ Aside0 (Kd.R (Kd.int .i64) 3 wc w.heap.size (fun _ => True) v7 Aj) ∧ Aside0 (wc.heap[Ag]? = some (.cells #[.int .i64 Ab, .int .i64 Ad, (.slice Ah Af.length Ai)] 28 (0, 0))) ∧ Aside0 (Below w.heap.size w wc))
    case first =>
     have H := Ch.out; clear Ch
     by_cases Ci : (Int.tmod a1 Ab) > 0
     ·rw [if_pos Ci] at H
      have c14b0 : decide (0 < (Int.tmod a1 Ab)) = true := decide_eq_true Ci; clear Ci
      (first | rw [c14b0] | (simp only [i64_w, i32_w]; rw [c14b0]) | skip)
      by_cases Cp : Ax.length < 17592186044416
      ·rw [if_pos Cp] at H
       have LMc15 := Aside0.mk Cp; clear Cp; obtain ⟨Cq, Bb⟩ : ∃ y_ : List Int, y_ = (Ax ++ [wrap64 (a1 - 1)]) := ⟨_, rfl⟩
       replace H : (spec_l12Next.j1 Dt a1 (wrap64 (Int.tdiv a1 Ab)) (Int.tmod a1 Ab) Cq Ab Ad Af) = some r := by first | (rw [Bb]; with_reducible exact H) | (have H2_ := (Option.bind_some _ _).symm.trans H; rw [Bb]; with_reducible exact H2_) | (have H2_ := (Option.bind_some _ _).symm.trans H; with_reducible exact H2_) | with_reducible exact H | (rw [Bb]; exact H) | exact H
       have B6 := Aside0.mk Bb; clear Bb; have H' := Aside0.mk H; clear H
       go_wp2_with (first | ((with_reducible refine gate_builtin (b := .append) (xs := #[.tmp 28, .tmp 31]) rfl ?_); at_builtin; refine Kd.R_append (Kd.int .i64) (w0 := w) w.heap.size rfl (.tmp 28) (.tmp 31) 22 3 (.int .i64 0) 8 rfl Try.underlying22 info3 rfl (by decide) (by omega) u7 Ax (wrap64 (a1 - 1)) [.int .i64 (wrap64 (a1 - 1))] (fun _ => True) (fun _ => False) rfl rfl ?aP (fun _ hk => hk.elim) ?aF ?aO ?aB ?aS ?aL ?_; (case aP => exact rfl); (case aB => exact Z1); (case aF => exact (fun _ _ => trivial)); (case aO => exact Z25); (case aS => exact (below_size Z1)); (case aL => have := LMc15.out; omega); intro Cr Du ho hb hg hat; rw [← B6.out] at ho; replace Aa := aM (blk_grown (g := Ag) (o := .cells #[.int .i64 Ab, .int .i64 Ad, .slice Ah Af.length Ai] 28 (0, 0)) Z12 hg (Kd.R_ne Ae.out Aa.out (by decide))); replace HB := aM (hb); have B7 := aM (ho); clear Ae; clear ho hb hg hat))
       repeat (go_quiet (first | ((with_reducible refine gate_builtin (b := .append) (xs := #[.tmp 28, .tmp 31]) rfl ?_); at_builtin; refine Kd.R_append (Kd.int .i64) (w0 := w) w.heap.size rfl (.tmp 28) (.tmp 31) 22 3 (.int .i64 0) 8 rfl Try.underlying22 info3 rfl (by decide) (by omega) u7 Ax (wrap64 (a1 - 1)) [.int .i64 (wrap64 (a1 - 1))] (fun _ => True) (fun _ => False) rfl rfl ?aP (fun _ hk => hk.elim) ?aF ?aO ?aB ?aS ?aL ?_; (case aP => exact rfl); (case aB => exact Z1); (case aF => exact (fun _ _ => trivial)); (case aO => exact Z25); (case aS => exact (below_size Z1)); (case aL => have := LMc15.out; omega); intro Cr Du ho hb hg hat; rw [← B6.out] at ho; replace Aa := aM (blk_grown (g := Ag) (o := .cells #[.int .i64 Ab, .int .i64 Ad, .slice Ah Af.length Ai] 28 (0, 0)) Z12 hg (Kd.R_ne Ae.out Aa.out (by decide))); replace HB := aM (hb); have B7 := aM (ho); clear Ae; clear ho hb hg hat)); try go_wp2_with (first | ((with_reducible refine gate_builtin (b := .append) (xs := #[.tmp 28, .tmp 31]) rfl ?_); at_builtin; refine Kd.R_append (Kd.int .i64) (w0 := w) w.heap.size rfl (.tmp 28) (.tmp 31) 22 3 (.int .i64 0) 8 rfl Try.underlying22 info3 rfl (by decide) (by omega) u7 Ax (wrap64 (a1 - 1)) [.int .i64 (wrap64 (a1 - 1))] (fun _ => True) (fun _ => False) rfl rfl ?aP (fun _ hk => hk.elim) ?aF ?aO ?aB ?aS ?aL ?_; (case aP => exact rfl); (case aB => exact Z1); (case aF => exact (fun _ _ => trivial)); (case aO => exact Z25); (case aS => exact (below_size Z1)); (case aL => have := LMc15.out; omega); intro Cr Du ho hb hg hat; rw [← B6.out] at ho; replace Aa := aM (blk_grown (g := Ag) (o := .cells #[.int .i64 Ab, .int .i64 Ad, .slice Ah Af.length Ai] 28 (0, 0)) Z12 hg (Kd.R_ne Ae.out Aa.out (by decide))); replace HB := aM (hb); have B7 := aM (ho); clear Ae; clear ho hb hg hat)))
       go_meet
       case rel => exact ⟨_, (Cq), H', ⟨Z114⟩, ⟨by (with_reducible repeat (first | apply Kd.R_alloc | apply Kd.R_drewN | apply Kd.R_drew)); exact B7.out⟩, ⟨Z12⟩, ⟨Z1⟩⟩
      ·rw [if_neg Cp] at H
       exact absurd H (by simp)
     ·rw [if_neg Ci] at H
      have c14b0 : decide (0 < (Int.tmod a1 Ab)) = false := decide_eq_false Ci; clear Ci
      (first | rw [c14b0] | (simp only [i64_w, i32_w]; rw [c14b0]) | skip)
      have H' := Aside0.mk H; clear H
      go_wp2
      repeat (go_quiet (fail); try go_wp2)
      go_meet
      case rel => exact ⟨_, (Ax), H', ⟨Z114⟩, ⟨Z25⟩, ⟨Z12⟩, ⟨Z1⟩⟩
    case rest =>
     clear Ch; (try clear c1); (try clear p2); (try clear c3); (try clear c3b0); (try clear c3b1); (try clear c6); (try clear p6); (try clear c9); (try clear c9b0); (try clear Cj); (try clear Ci); (try clear c14b0); (try clear Cp); (try clear Bi); (try clear Bj); (try clear Bk); (try clear Ap); (try clear Aq); (try clear Ar); (try clear Bl); (try clear Bm); (try clear Bn); (try clear Au); (try clear Av); (try clear Aw); (try clear p2); (try clear p6); obtain ⟨kq, Aj, HA, HJ12, Ae, Aa, HB⟩ := hcut; cases kq with
     | zero => exact absurd HA.out (by simp [spec_l12Next.j1])
     | succ Dz =>
      have H := HA.out; clear HA
      simp only [spec_l12Next.j1] at H
      by_cases Ck : (Int.tmod a1 Ab) < (wrap64 (Ab - 1))
      ·rw [if_pos Ck] at H
       have c17b0 : decide ((Int.tmod a1 Ab) < (wrap64 (Ab - 1))) = true := decide_eq_true Ck; clear Ck
       by_cases Cu : Aj.length < 17592186044416
       ·rw [if_pos Cu] at H
        have LMc18 := Aside0.mk Cu; clear Cu; obtain ⟨Bc, Bd⟩ : ∃ y_ : List Int, y_ = (Aj ++ [wrap64 (a1 + 1)]) := ⟨_, rfl⟩
        replace H : (if (wrap64 (Int.tdiv a1 Ab)) < (wrap64 (Ad - 1)) then (if Bc.length < 17592186044416 then (some (Bc ++ [wrap64 (a1 + Ab)])) else (none)) else (some Bc)) = some r := by first | (rw [Bd]; with_reducible exact H) | (have H2_ := (Option.bind_some _ _).symm.trans H; rw [Bd]; with_reducible exact H2_) | (have H2_ := (Option.bind_some _ _).symm.trans H; with_reducible exact H2_) | with_reducible exact H | (rw [Bd]; exact H) | exact H
        have Ao := Aside0.mk Bd; clear Bd
        by_cases Cl : (wrap64 (Int.tdiv a1 Ab)) < (wrap64 (Ad - 1))
        ·rw [if_pos Cl] at H
         have c19b0 : decide ((wrap64 (Int.tdiv a1 Ab)) < (wrap64 (Ad - 1))) = true := decide_eq_true Cl; clear Cl
         by_cases Cv : Bc.length < 17592186044416
         ·rw [if_pos Cv] at H
          have LMc20 := Aside0.mk Cv; clear Cv; obtain ⟨Dn, Bf⟩ : ∃ y_ : List Int, y_ = (Bc ++ [wrap64 (a1 + Ab)]) := ⟨_, rfl⟩
          replace H : (some Dn) = some r := by first | (rw [Bf]; with_reducible exact H) | (have H2_ := (Option.bind_some _ _).symm.trans H; rw [Bf]; with_reducible exact H2_) | (have H2_ := (Option.bind_some _ _).symm.trans H; with_reducible exact H2_) | with_reducible exact H | (rw [Bf]; exact H) | exact H
          have Ca := Aside0.mk Bf; clear Bf; obtain rfl := Option.some.inj H; obtain ⟨Cw, Cx, Cy⟩ := bz3 Aa; obtain ⟨Cz, C0, C1⟩ := fz3 Aa
          go_wp2_with (first | ((with_reducible refine gate_builtin (b := .append) (xs := #[.tmp 38, .tmp 41]) rfl ?_); at_builtin; refine Kd.R_append (Kd.int .i64) (w0 := w) w.heap.size rfl (.tmp 38) (.tmp 41) 22 3 (.int .i64 0) 8 rfl Try.underlying22 info3 rfl (by decide) (by omega) u7 Aj (wrap64 (a1 + 1)) [.int .i64 (wrap64 (a1 + 1))] (fun _ => True) (fun _ => False) rfl rfl ?aP (fun _ hk => hk.elim) ?aF ?aO ?aB ?aS ?aL ?_; (case aP => exact rfl); (case aB => exact Z1); (case aF => exact (fun _ _ => trivial)); (case aO => exact Z25); (case aS => exact (below_size Z1)); (case aL => have := LMc18.out; omega); intro Bg Dv ho hb hg hat; rw [← Ao.out] at ho; replace Aa := aM (blk_grown (g := Ag) (o := .cells #[.int .i64 Ab, .int .i64 Ad, .slice Ah Af.length Ai] 28 (0, 0)) Z12 hg (Kd.R_ne Ae.out Aa.out (by decide))); replace HB := aM (hb); have Ak := aM (ho); clear Ae; clear ho hb hg hat; obtain ⟨Bo, Bp, Bq⟩ := bz3 Aa; obtain ⟨Br, Bs, Bt⟩ := fz3 Aa) | ((with_reducible refine gate_builtin (b := .append) (xs := #[.tmp 48, .tmp 53]) rfl ?_); at_builtin; refine Kd.R_append (Kd.int .i64) (w0 := w) w.heap.size rfl (.tmp 48) (.tmp 53) 22 3 (.int .i64 0) 8 rfl Try.underlying22 info3 rfl (by decide) (by omega) Bg Bc (wrap64 (a1 + Ab)) [.int .i64 (wrap64 (a1 + Ab))] (fun _ => True) (fun _ => False) rfl rfl ?aP (fun _ hk => hk.elim) ?aF ?aO ?aB ?aS ?aL ?_; (case aP => exact rfl); (case aB => exact Z1); (case aF => exact (fun _ _ => trivial)); (case aO => exact Z54); (case aS => exact (below_size Z1)); (case aL => have := LMc20.out; omega); intro Cs Dw ho hb hg hat; rw [← Ca.out] at ho; replace Aa := aM (blk_grown (g := Ag) (o := .cells #[.int .i64 Ab, .int .i64 Ad, .slice Ah Af.length Ai] 28 (0, 0)) Z12 hg (Kd.R_ne Ak.out Aa.out (by decide))); replace HB := aM (hb); have Cb := aM (ho); clear Ak; clear ho hb hg hat))
          repeat (go_quiet (first | ((with_reducible refine gate_builtin (b := .append) (xs := #[.tmp 38, .tmp 41]) rfl ?_); at_builtin; refine Kd.R_append (Kd.int .i64) (w0 := w) w.heap.size rfl (.tmp 38) (.tmp 41) 22 3 (.int .i64 0) 8 rfl Try.underlying22 info3 rfl (by decide) (by omega) u7 Aj (wrap64 (a1 + 1)) [.int .i64 (wrap64 (a1 + 1))] (fun _ => True) (fun _ => False) rfl rfl ?aP (fun _ hk => hk.elim) ?aF ?aO ?aB ?aS ?aL ?_; (case aP => exact rfl); (case aB => exact Z1); (case aF => exact (fun _ _ => trivial)); (case aO => exact Z25); (case aS => exact (below_size Z1)); (case aL => have := LMc18.out; omega); intro Bg Dv ho hb hg hat; rw [← Ao.out] at ho; replace Aa := aM (blk_grown (g := Ag) (o := .cells #[.int .i64 Ab, .int .i64 Ad, .slice Ah Af.length Ai] 28 (0, 0)) Z12 hg (Kd.R_ne Ae.out Aa.out (by decide))); replace HB := aM (hb); have Ak := aM (ho); clear Ae; clear ho hb hg hat; obtain ⟨Bo, Bp, Bq⟩ := bz3 Aa; obtain ⟨Br, Bs, Bt⟩ := fz3 Aa) | ((with_reducible refine gate_builtin (b := .append) (xs := #[.tmp 48, .tmp 53]) rfl ?_); at_builtin; refine Kd.R_append (Kd.int .i64) (w0 := w) w.heap.size rfl (.tmp 48) (.tmp 53) 22 3 (.int .i64 0) 8 rfl Try.underlying22 info3 rfl (by decide) (by omega) Bg Bc (wrap64 (a1 + Ab)) [.int .i64 (wrap64 (a1 + Ab))] (fun _ => True) (fun _ => False) rfl rfl ?aP (fun _ hk => hk.elim) ?aF ?aO ?aB ?aS ?aL ?_; (case aP => exact rfl); (case aB => exact Z1); (case aF => exact (fun _ _ => trivial)); (case aO => exact Z54); (case aS => exact (below_size Z1)); (case aL => have := LMc20.out; omega); intro Cs Dw ho hb hg hat; rw [← Ca.out] at ho; replace Aa := aM (blk_grown (g := Ag) (o := .cells #[.int .i64 Ab, .int .i64 Ad, .slice Ah Af.length Ai] 28 (0, 0)) Z12 hg (Kd.R_ne Ak.out Aa.out (by decide))); replace HB := aM (hb); have Cb := aM (ho); clear Ak; clear ho hb hg hat)); try go_wp2_with (first | ((with_reducible refine gate_builtin (b := .append) (xs := #[.tmp 38, .tmp 41]) rfl ?_); at_builtin; refine Kd.R_append (Kd.int .i64) (w0 := w) w.heap.size rfl (.tmp 38) (.tmp 41) 22 3 (.int .i64 0) 8 rfl Try.underlying22 info3 rfl (by decide) (by omega) u7 Aj (wrap64 (a1 + 1)) [.int .i64 (wrap64 (a1 + 1))] (fun _ => True) (fun _ => False) rfl rfl ?aP (fun _ hk => hk.elim) ?aF ?aO ?aB ?aS ?aL ?_; (case aP => exact rfl); (case aB => exact Z1); (case aF => exact (fun _ _ => trivial)); (case aO => exact Z25); (case aS => exact (below_size Z1)); (case aL => have := LMc18.out; omega); intro Bg Dv ho hb hg hat; rw [← Ao.out] at ho; replace Aa := aM (blk_grown (g := Ag) (o := .cells #[.int .i64 Ab, .int .i64 Ad, .slice Ah Af.length Ai] 28 (0, 0)) Z12 hg (Kd.R_ne Ae.out Aa.out (by decide))); replace HB := aM (hb); have Ak := aM (ho); clear Ae; clear ho hb hg hat; obtain ⟨Bo, Bp, Bq⟩ := bz3 Aa; obtain ⟨Br, Bs, Bt⟩ := fz3 Aa) | ((with_reducible refine gate_builtin (b := .append) (xs := #[.tmp 48, .tmp 53]) rfl ?_); at_builtin; refine Kd.R_append (Kd.int .i64) (w0 := w) w.heap.size rfl (.tmp 48) (.tmp 53) 22 3 (.int .i64 0) 8 rfl Try.underlying22 info3 rfl (by decide) (by omega) Bg Bc (wrap64 (a1 + Ab)) [.int .i64 (wrap64 (a1 + Ab))] (fun _ => True) (fun _ => False) rfl rfl ?aP (fun _ hk => hk.elim) ?aF ?aO ?aB ?aS ?aL ?_; (case aP => exact rfl); (case aB => exact Z1); (case aF => exact (fun _ _ => trivial)); (case aO => exact Z54); (case aS => exact (below_size Z1)); (case aL => have := LMc20.out; omega); intro Cs Dw ho hb hg hat; rw [← Ca.out] at ho; replace Aa := aM (blk_grown (g := Ag) (o := .cells #[.int .i64 Ab, .int .i64 Ad, .slice Ah Af.length Ai] 28 (0, 0)) Z12 hg (Kd.R_ne Ak.out Aa.out (by decide))); replace HB := aM (hb); have Cb := aM (ho); clear Ak; clear ho hb hg hat)))
          go_ret
          exact ⟨_, Z4, by (with_reducible repeat (first | apply Kd.R_alloc | apply Kd.R_drewN | apply Kd.R_drew)); exact Cb.out, Z1⟩
         ·rw [if_neg Cv] at H
          exact absurd H (by simp)
        ·rw [if_neg Cl] at H
         have c19b0 : decide ((wrap64 (Int.tdiv a1 Ab)) < (wrap64 (Ad - 1))) = false := decide_eq_false Cl; clear Cl; obtain rfl := Option.some.inj H; obtain ⟨C3, C4, C5⟩ := bz3 Aa; obtain ⟨C6, C7, C8⟩ := fz3 Aa
         go_wp2_with (first | ((with_reducible refine gate_builtin (b := .append) (xs := #[.tmp 38, .tmp 41]) rfl ?_); at_builtin; refine Kd.R_append (Kd.int .i64) (w0 := w) w.heap.size rfl (.tmp 38) (.tmp 41) 22 3 (.int .i64 0) 8 rfl Try.underlying22 info3 rfl (by decide) (by omega) u7 Aj (wrap64 (a1 + 1)) [.int .i64 (wrap64 (a1 + 1))] (fun _ => True) (fun _ => False) rfl rfl ?aP (fun _ hk => hk.elim) ?aF ?aO ?aB ?aS ?aL ?_; (case aP => exact rfl); (case aB => exact Z1); (case aF => exact (fun _ _ => trivial)); (case aO => exact Z25); (case aS => exact (below_size Z1)); (case aL => have := LMc18.out; omega); intro Bg Dx ho hb hg hat; rw [← Ao.out] at ho; replace Aa := aM (blk_grown (g := Ag) (o := .cells #[.int .i64 Ab, .int .i64 Ad, .slice Ah Af.length Ai] 28 (0, 0)) Z12 hg (Kd.R_ne Ae.out Aa.out (by decide))); replace HB := aM (hb); have Ak := aM (ho); clear Ae; clear ho hb hg hat; obtain ⟨Bu, Bv, Bw⟩ := bz3 Aa; obtain ⟨Bx, Bz, B0⟩ := fz3 Aa))
         repeat (go_quiet (first | ((with_reducible refine gate_builtin (b := .append) (xs := #[.tmp 38, .tmp 41]) rfl ?_); at_builtin; refine Kd.R_append (Kd.int .i64) (w0 := w) w.heap.size rfl (.tmp 38) (.tmp 41) 22 3 (.int .i64 0) 8 rfl Try.underlying22 info3 rfl (by decide) (by omega) u7 Aj (wrap64 (a1 + 1)) [.int .i64 (wrap64 (a1 + 1))] (fun _ => True) (fun _ => False) rfl rfl ?aP (fun _ hk => hk.elim) ?aF ?aO ?aB ?aS ?aL ?_; (case aP => exact rfl); (case aB => exact Z1); (case aF => exact (fun _ _ => trivial)); (case aO => exact Z25); (case aS => exact (below_size Z1)); (case aL => have := LMc18.out; omega); intro Bg Dx ho hb hg hat; rw [← Ao.out] at ho; replace Aa := aM (blk_grown (g := Ag) (o := .cells #[.int .i64 Ab, .int .i64 Ad, .slice Ah Af.length Ai] 28 (0, 0)) Z12 hg (Kd.R_ne Ae.out Aa.out (by decide))); replace HB := aM (hb); have Ak := aM (ho); clear Ae; clear ho hb hg hat; obtain ⟨Bu, Bv, Bw⟩ := bz3 Aa; obtain ⟨Bx, Bz, B0⟩ := fz3 Aa)); try go_wp2_with (first | ((with_reducible refine gate_builtin (b := .append) (xs := #[.tmp 38, .tmp 41]) rfl ?_); at_builtin; refine Kd.R_append (Kd.int .i64) (w0 := w) w.heap.size rfl (.tmp 38) (.tmp 41) 22 3 (.int .i64 0) 8 rfl Try.underlying22 info3 rfl (by decide) (by omega) u7 Aj (wrap64 (a1 + 1)) [.int .i64 (wrap64 (a1 + 1))] (fun _ => True) (fun _ => False) rfl rfl ?aP (fun _ hk => hk.elim) ?aF ?aO ?aB ?aS ?aL ?_; (case aP => exact rfl); (case aB => exact Z1); (case aF => exact (fun _ _ => trivial)); (case aO => exact Z25); (case aS => exact (below_size Z1)); (case aL => have := LMc18.out; omega); intro Bg Dx ho hb hg hat; rw [← Ao.out] at ho; replace Aa := aM (blk_grown (g := Ag) (o := .cells #[.int .i64 Ab, .int .i64 Ad, .slice Ah Af.length Ai] 28 (0, 0)) Z12 hg (Kd.R_ne Ae.out Aa.out (by decide))); replace HB := aM (hb); have Ak := aM (ho); clear Ae; clear ho hb hg hat; obtain ⟨Bu, Bv, Bw⟩ := bz3 Aa; obtain ⟨Bx, Bz, B0⟩ := fz3 Aa)))
         go_ret
         exact ⟨_, Z4, Z54, Z1⟩
       ·rw [if_neg Cu] at H
        exact absurd H (by simp)
      ·rw [if_neg Ck] at H
       have c17b0 : decide ((Int.tmod a1 Ab) < (wrap64 (Ab - 1))) = false := decide_eq_false Ck; clear Ck
       by_cases Cm : (wrap64 (Int.tdiv a1 Ab)) < (wrap64 (Ad - 1))
       ·rw [if_pos Cm] at H
        have c28b0 : decide ((wrap64 (Int.tdiv a1 Ab)) < (wrap64 (Ad - 1))) = true := decide_eq_true Cm; clear Cm
        by_cases C9 : Aj.length < 17592186044416
        ·rw [if_pos C9] at H
         have LMc29 := Aside0.mk C9; clear C9; obtain ⟨Dp, Bh⟩ : ∃ y_ : List Int, y_ = (Aj ++ [wrap64 (a1 + Ab)]) := ⟨_, rfl⟩
         replace H : (some Dp) = some r := by first | (rw [Bh]; with_reducible exact H) | (have H2_ := (Option.bind_some _ _).symm.trans H; rw [Bh]; with_reducible exact H2_) | (have H2_ := (Option.bind_some _ _).symm.trans H; with_reducible exact H2_) | with_reducible exact H | (rw [Bh]; exact H) | exact H
         have Cc := Aside0.mk Bh; clear Bh; obtain rfl := Option.some.inj H; obtain ⟨Da, Db, Dc⟩ := bz3 Aa; obtain ⟨Dd, De, Df⟩ := fz3 Aa
         go_wp2_with (first | ((with_reducible refine gate_builtin (b := .append) (xs := #[.tmp 48, .tmp 53]) rfl ?_); at_builtin; refine Kd.R_append (Kd.int .i64) (w0 := w) w.heap.size rfl (.tmp 48) (.tmp 53) 22 3 (.int .i64 0) 8 rfl Try.underlying22 info3 rfl (by decide) (by omega) u7 Aj (wrap64 (a1 + Ab)) [.int .i64 (wrap64 (a1 + Ab))] (fun _ => True) (fun _ => False) rfl rfl ?aP (fun _ hk => hk.elim) ?aF ?aO ?aB ?aS ?aL ?_; (case aP => exact rfl); (case aB => exact Z1); (case aF => exact (fun _ _ => trivial)); (case aO => exact Z25); (case aS => exact (below_size Z1)); (case aL => have := LMc29.out; omega); intro Ct Dy ho hb hg hat; rw [← Cc.out] at ho; replace Aa := aM (blk_grown (g := Ag) (o := .cells #[.int .i64 Ab, .int .i64 Ad, .slice Ah Af.length Ai] 28 (0, 0)) Z12 hg (Kd.R_ne Ae.out Aa.out (by decide))); replace HB := aM (hb); have Cd := aM (ho); clear Ae; clear ho hb hg hat))
         repeat (go_quiet (first | ((with_reducible refine gate_builtin (b := .append) (xs := #[.tmp 48, .tmp 53]) rfl ?_); at_builtin; refine Kd.R_append (Kd.int .i64) (w0 := w) w.heap.size rfl (.tmp 48) (.tmp 53) 22 3 (.int .i64 0) 8 rfl Try.underlying22 info3 rfl (by decide) (by omega) u7 Aj (wrap64 (a1 + Ab)) [.int .i64 (wrap64 (a1 + Ab))] (fun _ => True) (fun _ => False) rfl rfl ?aP (fun _ hk => hk.elim) ?aF ?aO ?aB ?aS ?aL ?_; (case aP => exact rfl); (case aB => exact Z1); (case aF => exact (fun _ _ => trivial)); (case aO => exact Z25); (case aS => exact (below_size Z1)); (case aL => have := LMc29.out; omega); intro Ct Dy ho hb hg hat; rw [← Cc.out] at ho; replace Aa := aM (blk_grown (g := Ag) (o := .cells #[.int .i64 Ab, .int .i64 Ad, .slice Ah Af.length Ai] 28 (0, 0)) Z12 hg (Kd.R_ne Ae.out Aa.out (by decide))); replace HB := aM (hb); have Cd := aM (ho); clear Ae; clear ho hb hg hat)); try go_wp2_with (first | ((with_reducible refine gate_builtin (b := .append) (xs := #[.tmp 48, .tmp 53]) rfl ?_); at_builtin; refine Kd.R_append (Kd.int .i64) (w0 := w) w.heap.size rfl (.tmp 48) (.tmp 53) 22 3 (.int .i64 0) 8 rfl Try.underlying22 info3 rfl (by decide) (by omega) u7 Aj (wrap64 (a1 + Ab)) [.int .i64 (wrap64 (a1 + Ab))] (fun _ => True) (fun _ => False) rfl rfl ?aP (fun _ hk => hk.elim) ?aF ?aO ?aB ?aS ?aL ?_; (case aP => exact rfl); (case aB => exact Z1); (case aF => exact (fun _ _ => trivial)); (case aO => exact Z25); (case aS => exact (below_size Z1)); (case aL => have := LMc29.out; omega); intro Ct Dy ho hb hg hat; rw [← Cc.out] at ho; replace Aa := aM (blk_grown (g := Ag) (o := .cells #[.int .i64 Ab, .int .i64 Ad, .slice Ah Af.length Ai] 28 (0, 0)) Z12 hg (Kd.R_ne Ae.out Aa.out (by decide))); replace HB := aM (hb); have Cd := aM (ho); clear Ae; clear ho hb hg hat)))
         go_ret
         exact ⟨_, Z4, by (with_reducible repeat (first | apply Kd.R_alloc | apply Kd.R_drewN | apply Kd.R_drew)); exact Cd.out, Z1⟩
        ·rw [if_neg C9] at H
         exact absurd H (by simp)
       ·rw [if_neg Cm] at H
        have c28b0 : decide ((wrap64 (Int.tdiv a1 Ab)) < (wrap64 (Ad - 1))) = false := decide_eq_false Cm; clear Cm; obtain rfl := Option.some.inj H; obtain ⟨Dg, Dh, Di⟩ := bz3 Aa; obtain ⟨Dj, Dk, Dl⟩ := fz3 Aa
        go_wp2
        repeat (go_quiet (fail); try go_wp2)
        go_ret
        exact ⟨_, Z4, Z25, Z1⟩
end Go.Proofs.Ytaadbpibmlnncaa.H
