-- by wip/pack.py of this repo
import Derived.Test.YtaadbpibmlnncaaZ06Hx0
import Derived.Test.YtaadbpibmlnncaaZ06WApart
import Derived.Test.YtaadbpibmlnncaaZ06WKept
import Derived.Test.YtaadbpibmlnncaaZ06WLast
import Derived.Test.YtaadbpibmlnncaaZ06WMore
import Derived.Test.YtaadbpibmlnncaaZ06WWords
import Derived.Test.YtaadbpibmlnncaaZ06Short
namespace Go.Proofs.Ytaadbpibmlnncaa.H
open Go.RowKit Go.Proofs.YtaadbpibmlnncaaW.PrintWords Go.Proofs.YtaadbpibmlnncaaW.PrintLast Go.Proofs.YtaadbpibmlnncaaW.PrintMore
attribute [local go_sem] max2_int min2_int max_two min_two max_three min_three max_four min_four
set_option maxHeartbeats 8000000
set_option maxRecDepth 100000
set_option linter.unusedVariables false
set_option linter.unusedSimpArgs false
def laws_szIntS.f (l0 : List Int) (a1 : Int) : Option (Int) := if (wrap64 (a1 - (l0.length : Int))) < 0 then (some (-1)) else (some (wrap64 (a1 - (l0.length : Int))))
theorem laws_szIntS.calls (A0 : Option Addr) (c0 : Nat) (l0 : List Int) (a1 : Int) (r : Int) (w : World) (Aa : Kd.C (Kd.int .i64) w A0 l0.length l0) (Ab : l0.length ≤ c0) (h : laws_szIntS.f l0 a1 = some r) :
  Calls Try.prog 42 #[.slice A0 l0.length c0, .int .i64 a1] w fun e w' => e = .returned (.int .i64 r) ∧ Drawn0 w w' := by
 have Ac := Aside0.mk Aa; have Ad := Aside0.mk Ab; clear Aa Ab; have H : (if (wrap64 (a1 - (l0.length : Int))) < 0 then (some (-1)) else (some (wrap64 (a1 - (l0.length : Int))))) = some r := h; clear h
 by_cases c3 : (wrap64 (a1 - (l0.length : Int))) < 0
 ·rw [if_pos c3] at H
  have c3b0 : decide ((wrap64 (a1 - (l0.length : Int))) < 0) = true := decide_eq_true c3; clear c3; obtain rfl := Option.some.inj H
  go_enter Try.func42, Try.ntmps42
  go_wp2
  go_ret
  exact ⟨Z7, Z23⟩
 ·rw [if_neg c3] at H
  have c3b0 : decide ((wrap64 (a1 - (l0.length : Int))) < 0) = false := decide_eq_false c3; clear c3; obtain rfl := Option.some.inj H
  go_enter Try.func42, Try.ntmps42
  go_wp2
  go_ret
  exact ⟨Z7, Z23⟩
def laws_szChart.f (a0_0 : Int) (a0_1 : Int) (l0_2 : List Int) (a1 : Int) : Option (Int) := (laws_szIntS.f l0_2 a1).bind fun t102 => (if t102 < 0 then (some (-1)) else (some t102))
theorem laws_szChart.calls (Ag : Int) (Ah : Int) (Ad : Option Addr) (Ae : Nat) (Aa : List Int) (a1 : Int) (r : Int) (w : World) (Ai : Kd.C (Kd.int .i64) w Ad Aa.length Aa) (Aj : Aa.length ≤ Ae) (h : laws_szChart.f Ag Ah Aa a1 = some r) :
  Calls Try.prog 12 #[.agg #[.int .i64 Ag, .int .i64 Ah, .slice Ad Aa.length Ae], .int .i64 a1] w fun e w' => e = .returned (.int .i64 r) ∧ Below w.heap.size w w' := by
 have hu24 := Try.underlying24; have Ak := Aside0.mk Ai; have Al := Aside0.mk Aj; clear Ai Aj; have HB := aM (Below.refl w.heap.size w); have H : ((laws_szIntS.f Aa a1).bind fun Ab => (if Ab < 0 then (some (-1)) else (some Ab))) = some r := h; clear h; replace H := Option.bind_eq_some_iff.mp H; obtain ⟨Ab, Bd, H⟩ := H; replace H : (if Ab < 0 then (some (-1)) else (some Ab)) = some r := H; have A3 := Aside0.mk Bd; clear Bd
 by_cases c4 : Ab < 0
 ·rw [if_pos c4] at H
  have c4b0 : decide (Ab < 0) = true := decide_eq_true c4; clear c4; obtain rfl := Option.some.inj H
  go_enter Try.func12, Try.ntmps12
  go_wp2_with (first | ((with_reducible refine gate_dst (N := 2) rfl ?_); refine bxE 2 #[.int .i64 Ag, .int .i64 Ah, .slice Ad Aa.length Ae] 24 ?_; intro Am hg w5 hbox hb; have Ac := aM (hbox); have An := gwS hg Z0; have Af := gwS hg Z0; replace HB := hbS Z0 hb; clear hb hbox hg; obtain ⟨Ao, Ap, Aq⟩ := bz3 Ac; obtain ⟨Ar, Au, Aw⟩ := fz3 Ac) | ((with_reducible refine gate_callee (f := 42) rfl ?_); refine glE (some 8) Try.func42 #[.slice Ad Aa.length Ae, .int .i64 a1] ?_; (with_reducible refine (laws_szIntS.calls _ _ Aa a1 Ab _ ?side1 ?side2 A3.out).mono ?_); (case side1 => exact Z73); (case side2 => exact Al.out); rintro e w' ⟨rfl, ⟨nd, rfl⟩⟩; refine ⟨_, rfl, ?_⟩))
  go_ret
  exact ⟨Z6, Z2⟩
 ·rw [if_neg c4] at H
  have c4b0 : decide (Ab < 0) = false := decide_eq_false c4; clear c4; obtain rfl := Option.some.inj H
  go_enter Try.func12, Try.ntmps12
  go_wp2_with (first | ((with_reducible refine gate_dst (N := 2) rfl ?_); refine bxE 2 #[.int .i64 Ag, .int .i64 Ah, .slice Ad Aa.length Ae] 24 ?_; intro Am hg w7 hbox hb; have Ac := aM (hbox); have An := gwS hg Z0; have Af := gwS hg Z0; replace HB := hbS Z0 hb; clear hb hbox hg; obtain ⟨Ax, Ay, Az⟩ := bz3 Ac; obtain ⟨Ba, Bb, Bc⟩ := fz3 Ac) | ((with_reducible refine gate_callee (f := 42) rfl ?_); refine glE (some 8) Try.func42 #[.slice Ad Aa.length Ae, .int .i64 a1] ?_; (with_reducible refine (laws_szIntS.calls _ _ Aa a1 Ab _ ?side1 ?side2 A3.out).mono ?_); (case side1 => exact Z73); (case side2 => exact Al.out); rintro e w' ⟨rfl, ⟨nd, rfl⟩⟩; refine ⟨_, rfl, ?_⟩))
  go_ret
  exact ⟨Z6, Z2⟩
def laws_toIntS.l0 : Nat → List Int → List Int → Int → Option (List Int)
 | 0, _, _, _ => none
 | k + 1, x0, x3, x4 => if x4 < (x0.length : Int) then (if 0 ≤ x4 then (if x4 < (x3.length : Int) then (laws_toIntS.l0 k x0 (x3.set (x4 : Int).toNat (rd x0 x4)) (wrap64 (x4 + 1))) else (none)) else (none)) else (some x3)
def laws_toIntS.f (k : Nat) (l0 : List Int) : Option (List Int) := if 0 ≤ (l0.length : Int) then (if ((l0.length : Int) : Int).toNat ≤ 35184372088832 then (laws_toIntS.l0 k l0 (List.replicate ((l0.length : Int) : Int).toNat 0) 0) else (none)) else (none)
theorem laws_toIntS.calls (k : Nat) (A0 : Option Addr) (c0 : Nat) (l0 : List Int) (r : List Int) (w : World) (Au : Kd.C (Kd.int .i64) w A0 l0.length l0) (Aw : l0.length ≤ c0) (h : laws_toIntS.f k l0 = some r) :
  Calls Try.prog 28 #[.slice A0 l0.length c0] w fun e w' => ∃ v0_ : Value, e = .returned (v0_) ∧ Kd.R (Kd.int .i64) 3 w' w.heap.size (fun _ => True) v0_ r ∧ Below w.heap.size w w' := by
 have Bb := Aside0.mk Au; have Bf := Aside0.mk Aw; clear Au Aw; have HB := aM (Below.refl w.heap.size w); have H : (if 0 ≤ (l0.length : Int) then (if ((l0.length : Int) : Int).toNat ≤ 35184372088832 then (laws_toIntS.l0 k l0 (List.replicate ((l0.length : Int) : Int).toNat 0) 0) else (none)) else (none)) = some r := h; clear h
 by_cases c2 : 0 ≤ (l0.length : Int)
 ·rw [if_pos c2] at H
  have c2b0 := eq_true c2; have c2b1 : decide (0 ≤ (l0.length : Int)) = true := decide_eq_true c2; clear c2
  by_cases c3 : ((l0.length : Int) : Int).toNat ≤ 35184372088832
  ·rw [if_pos c3] at H
   have c3b0 := eq_true c3; have c3b1 : decide (((l0.length : Int) : Int).toNat ≤ 35184372088832) = true := decide_eq_true c3; clear c3; obtain ⟨Al, Ac⟩ : ∃ y_ : List Int, y_ = (List.replicate ((l0.length : Int) : Int).toNat 0) := ⟨_, rfl⟩
   replace H : (laws_toIntS.l0 k l0 Al 0) = some r := by first | (rw [Ac]; with_reducible exact H) | (have H2_ := (Option.bind_some _ _).symm.trans H; rw [Ac]; with_reducible exact H2_) | (have H2_ := (Option.bind_some _ _).symm.trans H; with_reducible exact H2_) | with_reducible exact H | (rw [Ac]; exact H) | exact H
   have Ag := Aside0.mk Ac; clear Ac; have H' := Aside0.mk H; clear H
   go_enter Try.func28, Try.ntmps28
   go_wp2_with (first | ((with_reducible refine gate_dst (N := 7) rfl ?_); refine Kd.R_make (Kd.int .i64) _ 3 rfl (N := 7) rfl 22 _ _ rfl (l0.length : Int) rfl rfl Try.underlying22 (.int .i64 0) 8 info3 rfl (by decide) (by omega) 0 (ok := fun _ => True) (okp := fun _ => True) rfl (fun _ hk => hk) trivial (of_decide_eq_true Z3) (Nat.le_trans (Nat.mul_le_mul_right _ (of_decide_eq_true Z3 : (l0.length : Int).toNat ≤ 35184372088832)) (by omega)) (Below.refl _ _) (Nat.le_refl _) ?_; intro Ap w4 Am hb hg_ hnew_; clear hg_ hnew_; (first | rw [← Ag.out] at Am | (simp only [Int.reduceToNat] at Am; rw [← Ag.out] at Am)); have An := aM (Kd.R_lower Am (below_size Z0)); replace HB := hbS Z0 hb; clear hb Am))
   go_loopg [4] k (fun kq v4 w' => ∃ (Ad : List Int) (Aa : Int), v4 = .int .i64 Aa ∧ Aside0 (laws_toIntS.l0 kq l0 Ad Aa = some r) ∧ Aside0 (kq ≤ k) ∧ Aside0 (Kd.R (Kd.int .i64) 3 w' w.heap.size (fun _ => True) Ap Ad) ∧ Aside0 (Below w.heap.size w w'))
   case atStart => exact ⟨(Al), (0), Z7, H', ⟨Nat.le_refl _⟩, ⟨Z41⟩, ⟨Z0⟩⟩
   case round =>
    clear H'; (try clear c2); (try clear c2b0); (try clear c2b1); (try clear p2); (try clear c3); (try clear c3b0); (try clear c3b1); obtain ⟨Ad, Aa, rfl, HA, HK1, Af, HB⟩ := hrel; cases gk with
    | zero => exact absurd HA.out (by simp [laws_toIntS.l0])
    | succ k1 =>
     have H := HA.out; clear HA
     simp only [laws_toIntS.l0] at H
     by_cases c6 : Aa < (l0.length : Int)
     ·rw [if_pos c6] at H
      have c6b0 : decide (Aa < (l0.length : Int)) = true := decide_eq_true c6; clear c6
      by_cases c7 : 0 ≤ Aa
      ·rw [if_pos c7] at H
       have c7b0 : decide (0 ≤ Aa) = true := decide_eq_true c7; clear c7
       by_cases c8 : Aa < (Ad.length : Int)
       ·rw [if_pos c8] at H
        have c8b0 : decide (Aa < (Ad.length : Int)) = true := decide_eq_true c8; clear c8; obtain ⟨Ah, Ae⟩ : ∃ y_ : List Int, y_ = (Ad.set (Aa : Int).toNat (rd l0 Aa)) := ⟨_, rfl⟩
        replace H : (laws_toIntS.l0 k1 l0 Ah (wrap64 (Aa + 1))) = some r := by first | (rw [Ae]; with_reducible exact H) | (have H2_ := (Option.bind_some _ _).symm.trans H; rw [Ae]; with_reducible exact H2_) | (have H2_ := (Option.bind_some _ _).symm.trans H; with_reducible exact H2_) | with_reducible exact H | (rw [Ae]; exact H) | exact H
        have Ao := Aside0.mk Ae; clear Ae; have H' := Aside0.mk H; clear H; have Ai : 0 ≤ (Aa : Int) := of_decide_eq_true Z3; have Aj : Aa < (l0.length : Int) := of_decide_eq_true Z3; obtain ⟨ad106, e106, Ab⟩ := Kd.at_int Bb.out Aa Ai Aj; cases e106; replace Ab := (HB.out.cell (World.block_lt_of_cell? w _ Ab)).trans Ab; replace Ai := eq_true Ai; replace Aj := eq_true Aj; have p9 : 0 ≤ (Aa : Int) := of_decide_eq_true Z3; have q9 : (Aa : Int) < ((Ad.length : Int) : Int) := of_decide_eq_true Z3; obtain ⟨Aq, Bc, Ax, Ay, gl9, cl9, HG9⟩ := Kd.R_form Af.out (by omega)
        (first | cases Ax | (injection Ax with ea_ en_ ec_; (first | subst ea_ | (injection ea_ with ea_; subst ea_)); subst ec_; clear en_))
        have Bd := Aside0.mk Ay; have Bg := Aside0.mk HG9; clear Ay gl9 HG9; obtain ⟨Az, Ba⟩ := Kd.R_celln 0 Af.out (Aa : Int) p9 q9; replace p9 := eq_true p9; replace q9 := eq_true q9; have Ak := Kd.R_putg Af.out (Aa : Int) (rd l0 Aa)
        go_wp2_with (first | ((with_reducible refine gate_store (t := 3) (p := 20) rfl ?_); refine store_event (t := 3) (p := 20) (v := ?vo_w11) (w1 := (wr.setCell ⟨Aq, (Aa : Int).toNat, none⟩ (.int .i64 (rd l0 Aa)))) ?hg ?ho ?hn ?hr ?_; (case ho => rfl); (case hg => rfl); (case hn => rfl); (case hr => first | (go_simp; done) | (go_simp; rfl)); intro Ar hw; have hg : wr.grownBy Ar (some Aq) := (by rw [hw]; exact Ak.2); have hp_ : Kd.R (Kd.int .i64) 3 Ar w.heap.size (fun _ => True) (.slice (some ⟨Aq, 0, none⟩) Ad.length Bc) Ah := (by rw [hw, Ao.out]; exact Ak.1); clear Ak; replace Af := aM (hp_); replace HB := aM ((by rw [hw]; exact below_set (HB.out) Bd.out : Below w.heap.size w Ar)); clear hg hw hp_))
        go_roundg k1
        case measure => have := HK1.out; omega
        case rel => exact ⟨(Ah), (wrap64 (Aa + 1)), Z7, H', ⟨Z66⟩, ⟨Z57⟩, ⟨Z0⟩⟩
       ·rw [if_neg c8] at H
        exact absurd H (by simp)
      ·rw [if_neg c7] at H
       exact absurd H (by simp)
     ·rw [if_neg c6] at H
      have c6b0 : decide (Aa < (l0.length : Int)) = false := decide_eq_false c6; clear c6; obtain rfl := Option.some.inj H
      go_wp2
      go_ret
      exact ⟨_, Z6, Z57, Z0⟩
  ·rw [if_neg c3] at H
   exact absurd H (by simp)
 ·rw [if_neg c2] at H
  exact absurd H (by simp)
def laws_toChart.f (k : Nat) (a0_0 : Int) (a0_1 : Int) (l0_2 : List Int) : Option (Int × Int × List Int) := (laws_toIntS.f k l0_2).bind fun t111 => (some (a0_0, a0_1, t111))
theorem laws_toChart.calls (k : Nat) (Af : Int) (Ai : Int) (Ar : Option Addr) (Au : Nat) (Aj : List Int) (r1 : Int) (r2 : Int) (r3 : List Int) (w : World) (Aw : Kd.C (Kd.int .i64) w Ar Aj.length Aj) (Ax : Aj.length ≤ Au) (h : laws_toChart.f k Af Ai Aj = some (r1, r2, r3)) :
  Calls Try.prog 14 #[.agg #[.int .i64 Af, .int .i64 Ai, .slice Ar Aj.length Au]] w fun e w' => ∃ v2_ : Value, e = .returned (.agg #[.int .i64 r1, .int .i64 r2, v2_]) ∧ Kd.R (Kd.int .i64) 3 w' w.heap.size (fun _ => True) v2_ r3 ∧ Below w.heap.size w w' := by
 have hu24 := Try.underlying24; have hu28 := Try.underlying28; have Bc := Aside0.mk Aw; have Bd := Aside0.mk Ax; clear Aw Ax; have HB := aM (Below.refl w.heap.size w); have H : ((laws_toIntS.f k Aj).bind fun Al => (some (Af, Ai, Al))) = some (r1, r2, r3) := h; clear h; replace H := Option.bind_eq_some_iff.mp H; obtain ⟨Al, Ca, H⟩ := H; replace H : (some (Af, Ai, Al)) = some (r1, r2, r3) := H; have A2 := Aside0.mk Ca; clear Ca
 simp only [Option.some.injEq, Prod.mk.injEq] at H
 obtain ⟨rfl, rfl, rfl⟩ := H
 go_enter Try.func14, Try.ntmps14
 go_wp2_with (first | ((with_reducible refine gate_dst (N := 1) rfl ?_); refine bxE 1 #[.int .i64 Af, .int .i64 Ai, .slice Ar Aj.length Au] 24 ?_; intro Bf hg w3 hbox hb; have Aa := aM (hbox); have Cb := gwS hg Z0; have Ac := gwS hg Z0; replace HB := hbS Z0 hb; clear hb hbox hg) | ((with_reducible refine gate_dst (N := 2) rfl ?_); refine bxE 2 #[.int .i64 0, .int .i64 0, .slice none 0 0] 28 ?_; intro Ak hg w4 hbox hb; have Ad := aM (hbox); have Cc := gwS hg Z1; have Ag := gwS hg Z1; replace HB := hbS Z1 hb; have An := nbL hg Aa; have Ao := nbG hg Aa; replace Aa := bkB Aa hb; clear hb hbox hg) | ((with_reducible refine gate_dst (N := 3) rfl ?_); refine bxE 3 #[.int .i64 0, .int .i64 0, .slice none 0 0] 28 ?_; intro Ay hg w5 hbox hb; have Ah := aM (hbox); have Cd := gwS hg Z49; have Am := gwS hg Z49; replace HB := hbS Z49 hb; have Ae := nbL hg Aa; have Ap := nbG hg Aa; replace Aa := bkB Aa hb; have Ab := nbL hg Ad; have Aq := nbG hg Ad; replace Ad := bkB Ad hb; clear hb hbox hg; have Cf := An.out; have Cg := Ao.out; have Ch := Ae.out; have Ci := Ap.out; obtain ⟨Bz, B0, B2⟩ := bz3 Aa; obtain ⟨B4, B5, B6⟩ := fz3 Aa; have Cj := Aq.out; have Ck := Ab.out; obtain ⟨Bg, Bh, Bi⟩ := bz3 Ah; obtain ⟨Bj, Bk, Bl⟩ := fz3 Ah) | ((with_reducible refine gate_callee (f := 28) rfl ?_); refine glE (some 12) Try.func28 #[.slice Ar Aj.length Au] ?_; (with_reducible refine (laws_toIntS.calls k _ _ Aj Al _ ?side1 ?side2 A2.out).mono ?_); (case side1 => exact Kd.C_below Bc.out Z36); (case side2 => exact Bd.out); rintro e Cm ⟨Cl, rfl, Ce, hb⟩; refine ⟨_, rfl, ?_⟩; have Az := aM (Kd.R_lower Ce (below_size Z36)); replace Aa := aM (blk_below (g := Bf) (o := .cells #[.int .i64 Af, .int .i64 Ai, .slice Ar Aj.length Au] 24 (0, 0)) (by (with_reducible repeat (first | refine blk_drewN ?_ _ | refine blk_drew ?_ | refine blk_alloc ?_ _)); refine blk_far ?_ Ae.out _; (with_reducible repeat (first | refine blk_drewN ?_ _ | refine blk_drew ?_ | refine blk_alloc ?_ _)); refine blk_far ?_ Ae.out _; (with_reducible repeat (first | refine blk_drewN ?_ _ | refine blk_drew ?_ | refine blk_alloc ?_ _)); exact Aa.out) hb); replace Ad := aM (blk_below (g := Ak) (o := .cells #[.int .i64 0, .int .i64 0, .slice none 0 0] 28 (0, 0)) (by (with_reducible repeat (first | refine blk_drewN ?_ _ | refine blk_drew ?_ | refine blk_alloc ?_ _)); refine blk_far ?_ Ab.out _; (with_reducible repeat (first | refine blk_drewN ?_ _ | refine blk_drew ?_ | refine blk_alloc ?_ _)); refine blk_far ?_ Ab.out _; (with_reducible repeat (first | refine blk_drewN ?_ _ | refine blk_drew ?_ | refine blk_alloc ?_ _)); exact Ad.out) hb); replace Ah := aM (blk_below (g := Ay) (o := .cells #[.int .i64 Af, .int .i64 Ai, .slice none 0 0] 28 (0, 0)) (by (with_reducible repeat (first | refine blk_drewN ?_ _ | refine blk_drew ?_ | refine blk_alloc ?_ _)); refine blk_put (cs := #[.int .i64 Af, .int .i64 0, .slice none 0 0]) ?_ 1 _ rfl; (with_reducible repeat (first | refine blk_drewN ?_ _ | refine blk_drew ?_ | refine blk_alloc ?_ _)); refine blk_put (cs := #[.int .i64 0, .int .i64 0, .slice none 0 0]) ?_ 0 _ rfl; (with_reducible repeat (first | refine blk_drewN ?_ _ | refine blk_drew ?_ | refine blk_alloc ?_ _)); exact Ah.out) hb); replace HB := hbS Z36 hb; (try clear hb); (try clear Ce); obtain ⟨Ba, Bb, B7⟩ := Kd.R_slice Az.out; subst B7; obtain ⟨Bm, Bn, Bo⟩ := bz3 Ah; obtain ⟨Bp, Bq, Br⟩ := fz3 Ah; obtain ⟨Bs, Bt, Bu⟩ := bz3 Ad; obtain ⟨Bv, Bw, Bx⟩ := fz3 Ad))
 refine bodyPost_ret (results_cell_row rfl _ _ Ak 28 #[.int .i64 Af, .int .i64 Ai, .slice Ba Al.length Bb] (0, 0) _ rfl (by (with_reducible repeat (first | refine blk_drewN ?_ _ | refine blk_drew ?_ | refine blk_alloc ?_ _)); refine blk_put (cs := #[.int .i64 Af, .int .i64 Ai, .slice none 0 0]) ?_ 2 _ rfl; (with_reducible repeat (first | refine blk_drewN ?_ _ | refine blk_drew ?_ | refine blk_alloc ?_ _)); refine blk_put (cs := #[.int .i64 Af, .int .i64 0, .slice none 0 0]) ?_ 1 _ rfl; (with_reducible repeat (first | refine blk_drewN ?_ _ | refine blk_drew ?_ | refine blk_alloc ?_ _)); refine blk_put (cs := #[.int .i64 0, .int .i64 0, .slice none 0 0]) ?_ 0 _ rfl; (with_reducible repeat (first | refine blk_drewN ?_ _ | refine blk_drew ?_ | refine blk_alloc ?_ _)); refine blk_far ?_ Ab.out _; (with_reducible repeat (first | refine blk_drewN ?_ _ | refine blk_drew ?_ | refine blk_alloc ?_ _)); exact Ad.out) Try.underlying28 rfl Z33) rfl ?_
 exact ⟨_, Z6, by (with_reducible repeat (first | apply Kd.R_alloc | apply Kd.R_drewN | apply Kd.R_drew)); exact Kd.R_mono (Kd.R_far (p := ⟨Ak, 2, none⟩) (Kd.R_far (p := ⟨Ak, 1, none⟩) (Kd.R_far (p := ⟨Ak, 0, none⟩) (Kd.R_far (p := ⟨Ay, 2, none⟩) (Kd.R_types (Kd.R_types Az.out Ah.out (by decide)) Ad.out (by decide)) (fun _ hk => hk.1.2) (.slice Ba Al.length Bb)) (fun _ hk => hk.2) (.int .i64 Af)) (fun _ hk => hk.2) (.int .i64 Ai)) (fun _ hk => hk.2) (.slice Ba Al.length Bb)) (fun _ hk => trivial), Z36⟩
def laws_eqIntS.l0 : Nat → List Int → List Int → Int → Option (Bool)
 | 0, _, _, _ => none
 | k + 1, x0, x1, x5 => if x5 < (x0.length : Int) then (if 0 ≤ x5 then (if x5 < (x1.length : Int) then (if (rd x0 x5) = (rd x1 x5) then (laws_eqIntS.l0 k x0 x1 (wrap64 (x5 + 1))) else (some false)) else (none)) else (none)) else (some true)
def laws_eqIntS.f (k : Nat) (l0 : List Int) (l1 : List Int) : Option (Bool) := if (l0.length : Int) = (l1.length : Int) then (laws_eqIntS.l0 k l0 l1 0) else (some false)
theorem laws_eqIntS.calls (k : Nat) (A0 : Option Addr) (c0 : Nat) (l0 : List Int) (A1 : Option Addr) (c1 : Nat) (l1 : List Int) (r : Bool) (w : World) (Ah : Kd.C (Kd.int .i64) w A0 l0.length l0) (Ai : l0.length ≤ c0) (Aj : Kd.C (Kd.int .i64) w A1 l1.length l1) (Ak : l1.length ≤ c1) (h : laws_eqIntS.f k l0 l1 = some r) :
  Calls Try.prog 19 #[.slice A0 l0.length c0, .slice A1 l1.length c1] w fun e w' => e = .returned (.bool r) ∧ Drawn0 w w' := by
 have Al := Aside0.mk Ah; have An := Aside0.mk Ai; clear Ah Ai; have Am := Aside0.mk Aj; have Ao := Aside0.mk Ak; clear Aj Ak; have H : (if (l0.length : Int) = (l1.length : Int) then (laws_eqIntS.l0 k l0 l1 0) else (some false)) = some r := h; clear h
 by_cases c3 : (l0.length : Int) = (l1.length : Int)
 ·rw [if_pos c3] at H
  have c3b0 : ((l0.length : Int) == (l1.length : Int)) = true := beq_iff_eq.mpr c3; have c3b1 : ((l0.length : Int) != (l1.length : Int)) = false := bne_eq_false_iff_eq.mpr c3
  have c3b2 : (l0.length == l1.length) = true := by first | simpa using c3 | (simp at c3 ⊢; omega)
  clear c3; have H' := Aside0.mk H; clear H
  go_enter Try.func19, Try.ntmps19
  go_wp2
  repeat (go_quiet (fail); try go_wp2)
  go_loopg [5] k (fun kq v5 w' => ∃ (Aa : Int), v5 = .int .i64 Aa ∧ Aside0 (laws_eqIntS.l0 kq l0 l1 Aa = some r) ∧ Aside0 (kq ≤ k) ∧ Drawn0 w w')
  case atStart => exact ⟨(0), Z7, H', ⟨Nat.le_refl _⟩, Z23⟩
  case round =>
   clear H'; (try clear c1); (try clear p2); (try clear c3); (try clear c3b0); (try clear c3b1); (try clear c3b2); obtain ⟨Aa, rfl, HA, HK1, ⟨m1, rfl⟩⟩ := hrel; cases gk with
   | zero => exact absurd HA.out (by simp [laws_eqIntS.l0])
   | succ k1 =>
    have H := HA.out; clear HA
    simp only [laws_eqIntS.l0] at H
    by_cases c4 : Aa < (l0.length : Int)
    ·rw [if_pos c4] at H
     have c4b0 : decide (Aa < (l0.length : Int)) = true := decide_eq_true c4; clear c4
     by_cases c5 : 0 ≤ Aa
     ·rw [if_pos c5] at H
      have c5b0 : decide (0 ≤ Aa) = true := decide_eq_true c5; clear c5
      by_cases c6 : Aa < (l1.length : Int)
      ·rw [if_pos c6] at H
       have c6b0 : decide (Aa < (l1.length : Int)) = true := decide_eq_true c6; clear c6
       by_cases c7 : (rd l0 Aa) = (rd l1 Aa)
       ·rw [if_pos c7] at H
        have c7b0 : ((rd l0 Aa) == (rd l1 Aa)) = true := beq_iff_eq.mpr c7; have c7b1 : ((rd l0 Aa) != (rd l1 Aa)) = false := bne_eq_false_iff_eq.mpr c7; clear c7; have H' := Aside0.mk H; clear H; have Ab : 0 ≤ (Aa : Int) := of_decide_eq_true Z3; have Ac : Aa < (l0.length : Int) := of_decide_eq_true Z3; obtain ⟨ad114, e114, Af⟩ := Kd.at_int Al.out Aa Ab Ac; cases e114; replace Ab := eq_true Ab; replace Ac := eq_true Ac; have Ad : 0 ≤ (Aa : Int) := of_decide_eq_true Z3; have Ae : Aa < (l1.length : Int) := of_decide_eq_true Z3; obtain ⟨ad115, e115, Ag⟩ := Kd.at_int Am.out Aa Ad Ae; cases e115; replace Ad := eq_true Ad; replace Ae := eq_true Ae
        go_wp2
        repeat (go_quiet (fail); try go_wp2)
        go_roundg k1
        case measure => have := HK1.out; omega
        case rel => exact ⟨(wrap64 (Aa + 1)), Z7, H', ⟨Z66⟩, Z23⟩
       ·rw [if_neg c7] at H
        have c7b0 : ((rd l0 Aa) == (rd l1 Aa)) = false := beq_eq_false_iff_ne.mpr c7; have c7b1 : ((rd l0 Aa) != (rd l1 Aa)) = true := bne_iff_ne.mpr c7; obtain rfl := Option.some.inj H; have Ab : 0 ≤ (Aa : Int) := of_decide_eq_true Z3; have Ac : Aa < (l0.length : Int) := of_decide_eq_true Z3; obtain ⟨ad114, e114, Af⟩ := Kd.at_int Al.out Aa Ab Ac; cases e114; replace Ab := eq_true Ab; replace Ac := eq_true Ac; have Ad : 0 ≤ (Aa : Int) := of_decide_eq_true Z3; have Ae : Aa < (l1.length : Int) := of_decide_eq_true Z3; obtain ⟨ad115, e115, Ag⟩ := Kd.at_int Am.out Aa Ad Ae; cases e115; replace Ad := eq_true Ad; replace Ae := eq_true Ae
        go_wp2
        repeat (go_quiet (fail); try go_wp2)
        go_ret
        exact ⟨Z7, Z23⟩
      ·rw [if_neg c6] at H
       exact absurd H (by simp)
     ·rw [if_neg c5] at H
      exact absurd H (by simp)
    ·rw [if_neg c4] at H
     have c4b0 : decide (Aa < (l0.length : Int)) = false := decide_eq_false c4; clear c4; obtain rfl := Option.some.inj H
     go_wp2
     repeat (go_quiet (fail); try go_wp2)
     go_ret
     exact ⟨Z7, Z23⟩
 ·rw [if_neg c3] at H
  have c3b0 : ((l0.length : Int) == (l1.length : Int)) = false := beq_eq_false_iff_ne.mpr c3; have c3b1 : ((l0.length : Int) != (l1.length : Int)) = true := bne_iff_ne.mpr c3
  have c3b2 : (l0.length == l1.length) = false := by first | simpa using c3 | (simp at c3 ⊢; omega)
  obtain rfl := Option.some.inj H
  go_enter Try.func19, Try.ntmps19
  go_wp2
  repeat (go_quiet (fail); try go_wp2)
  go_ret
  exact ⟨Z7, Z23⟩
def laws_eqChart.f (k : Nat) (a0_0 : Int) (a0_1 : Int) (l0_2 : List Int) (a1_0 : Int) (a1_1 : Int) (l1_2 : List Int) : Option (Bool) := if a0_0 = a1_0 then (if a0_1 = a1_1 then ((laws_eqIntS.f k l0_2 l1_2).bind fun t118 => (if t118 = true then (some true) else (some false))) else (some false)) else (some false)
theorem laws_eqChart.calls (k : Nat) (Ah : Int) (Ai : Int) (Am : Option Addr) (An : Nat) (Af : List Int) (Aj : Int) (Ak : Int) (Ao : Option Addr) (Ap : Nat) (Ag : List Int) (r : Bool) (w : World) (Ay : Kd.C (Kd.int .i64) w Am Af.length Af) (Az : Af.length ≤ An) (Ba : Kd.C (Kd.int .i64) w Ao Ag.length Ag) (Bb : Ag.length ≤ Ap) (h : laws_eqChart.f k Ah Ai Af Aj Ak Ag = some r) :
  Calls Try.prog 16 #[.agg #[.int .i64 Ah, .int .i64 Ai, .slice Am Af.length An], .agg #[.int .i64 Aj, .int .i64 Ak, .slice Ao Ag.length Ap]] w fun e w' => e = .returned (.bool r) ∧ Below w.heap.size w w' := by
 have hu28 := Try.underlying28; have Bc := Aside0.mk Ay; have Bd := Aside0.mk Az; clear Ay Az; have Bf := Aside0.mk Ba; have Bg := Aside0.mk Bb; clear Ba Bb; have HB := aM (Below.refl w.heap.size w); have H : (if Ah = Aj then (if Ai = Ak then ((laws_eqIntS.f k Af Ag).bind fun Ax => (if Ax = true then (some true) else (some false))) else (some false)) else (some false)) = some r := h; clear h
 by_cases c3 : Ah = Aj
 ·rw [if_pos c3] at H
  have c3b0 : (Ah == Aj) = true := beq_iff_eq.mpr c3; have c3b1 : (Ah != Aj) = false := bne_eq_false_iff_eq.mpr c3; clear c3
  by_cases c4 : Ai = Ak
  ·rw [if_pos c4] at H
   have c4b0 : (Ai == Ak) = true := beq_iff_eq.mpr c4; have c4b1 : (Ai != Ak) = false := bne_eq_false_iff_eq.mpr c4; clear c4; replace H := Option.bind_eq_some_iff.mp H; obtain ⟨Ax, Cy, H⟩ := H; replace H : (if Ax = true then (some true) else (some false)) = some r := H; have A5 := Aside0.mk Cy; clear Cy
   by_cases c6 : Ax = true
   ·subst c6
    have H1 : (some true) = some r := by rw [if_pos rfl] at H; exact H
    clear H; have H := H1; clear H1; obtain rfl := Option.some.inj H
    go_enter Try.func16, Try.ntmps16
    go_wp2_with (first | ((with_reducible refine gate_dst (N := 2) rfl ?_); refine bxE 2 #[.int .i64 Ah, .int .i64 Ai, .slice Am Af.length An] 28 ?_; intro Aq hg w7 hbox hb; have Aa := aM (hbox); have Ar := gwS hg Z0; have Ab := gwS hg Z0; replace HB := hbS Z0 hb; clear hb hbox hg) | ((with_reducible refine gate_dst (N := 3) rfl ?_); refine bxE 3 #[.int .i64 Aj, .int .i64 Ak, .slice Ao Ag.length Ap] 28 ?_; intro Au hg w8 hbox hb; have Ae := aM (hbox); have Aw := gwS hg Z24; have Al := gwS hg Z24; replace HB := hbS Z24 hb; have Ac := nbL hg Aa; have Ad := nbG hg Aa; replace Aa := bkB Aa hb; clear hb hbox hg; have C6 := Ac.out; have C7 := Ad.out; obtain ⟨Bh, Bi, Bj⟩ := bz3 Aa; obtain ⟨Bk, Bl, Bm⟩ := fz3 Aa; obtain ⟨Bn, Bo, Bp⟩ := bz3 Ae; obtain ⟨Bq, Br, Bs⟩ := fz3 Ae) | ((with_reducible refine gate_callee (f := 19) rfl ?_); refine glE (some 19) Try.func19 #[.slice Am Af.length An, .slice Ao Ag.length Ap] ?_; (with_reducible refine (laws_eqIntS.calls k _ _ Af _ _ Ag true _ ?side1 ?side2 ?side3 ?side4 A5.out).mono ?_); (case side1 => exact Z74); (case side2 => exact Bd.out); (case side3 => exact Z75); (case side4 => exact Bg.out); rintro e w' ⟨rfl, ⟨nd, rfl⟩⟩; refine ⟨_, rfl, ?_⟩))
    go_ret
    exact ⟨Z6, Z39⟩
   ·replace c6 := Bool.eq_false_iff.mpr c6
    subst c6
    have H1 : (some false) = some r := by rw [if_neg (show ¬ (false = true) by decide)] at H; exact H
    clear H; have H := H1; clear H1; obtain rfl := Option.some.inj H
    go_enter Try.func16, Try.ntmps16
    go_wp2_with (first | ((with_reducible refine gate_dst (N := 2) rfl ?_); refine bxE 2 #[.int .i64 Ah, .int .i64 Ai, .slice Am Af.length An] 28 ?_; intro Aq hg C8 hbox hb; have Aa := aM (hbox); have Ar := gwS hg Z0; have Ab := gwS hg Z0; replace HB := hbS Z0 hb; clear hb hbox hg) | ((with_reducible refine gate_dst (N := 3) rfl ?_); refine bxE 3 #[.int .i64 Aj, .int .i64 Ak, .slice Ao Ag.length Ap] 28 ?_; intro Au hg C9 hbox hb; have Ae := aM (hbox); have Aw := gwS hg Z24; have Al := gwS hg Z24; replace HB := hbS Z24 hb; have Ac := nbL hg Aa; have Ad := nbG hg Aa; replace Aa := bkB Aa hb; clear hb hbox hg; have Cz := Ac.out; have C0 := Ad.out; obtain ⟨Bt, Bu, Bv⟩ := bz3 Aa; obtain ⟨Bw, Bx, Bz⟩ := fz3 Aa; obtain ⟨B0, B2, B4⟩ := bz3 Ae; obtain ⟨B5, B6, B7⟩ := fz3 Ae) | ((with_reducible refine gate_callee (f := 19) rfl ?_); refine glE (some 19) Try.func19 #[.slice Am Af.length An, .slice Ao Ag.length Ap] ?_; (with_reducible refine (laws_eqIntS.calls k _ _ Af _ _ Ag false _ ?side1 ?side2 ?side3 ?side4 A5.out).mono ?_); (case side1 => exact Z74); (case side2 => exact Bd.out); (case side3 => exact Z75); (case side4 => exact Bg.out); rintro e w' ⟨rfl, ⟨nd, rfl⟩⟩; refine ⟨_, rfl, ?_⟩))
    go_ret
    exact ⟨Z6, Z39⟩
  ·rw [if_neg c4] at H
   have c4b0 : (Ai == Ak) = false := beq_eq_false_iff_ne.mpr c4; have c4b1 : (Ai != Ak) = true := bne_iff_ne.mpr c4; obtain rfl := Option.some.inj H
   go_enter Try.func16, Try.ntmps16
   go_wp2_with (first | ((with_reducible refine gate_dst (N := 2) rfl ?_); refine bxE 2 #[.int .i64 Ah, .int .i64 Ai, .slice Am Af.length An] 28 ?_; intro Aq hg Da hbox hb; have Aa := aM (hbox); have Ar := gwS hg Z0; have Ab := gwS hg Z0; replace HB := hbS Z0 hb; clear hb hbox hg) | ((with_reducible refine gate_dst (N := 3) rfl ?_); refine bxE 3 #[.int .i64 Aj, .int .i64 Ak, .slice Ao Ag.length Ap] 28 ?_; intro Au hg Db hbox hb; have Ae := aM (hbox); have Aw := gwS hg Z24; have Al := gwS hg Z24; replace HB := hbS Z24 hb; have Ac := nbL hg Aa; have Ad := nbG hg Aa; replace Aa := bkB Aa hb; clear hb hbox hg; have C1 := Ac.out; have C3 := Ad.out; obtain ⟨Ca, Cb, Cc⟩ := bz3 Aa; obtain ⟨Cd, Ce, Cf⟩ := fz3 Aa; obtain ⟨Cg, Ch, Ci⟩ := bz3 Ae; obtain ⟨Cj, Ck, Cl⟩ := fz3 Ae))
   go_ret
   exact ⟨Z6, Z39⟩
 ·rw [if_neg c3] at H
  have c3b0 : (Ah == Aj) = false := beq_eq_false_iff_ne.mpr c3; have c3b1 : (Ah != Aj) = true := bne_iff_ne.mpr c3; obtain rfl := Option.some.inj H
  go_enter Try.func16, Try.ntmps16
  go_wp2_with (first | ((with_reducible refine gate_dst (N := 2) rfl ?_); refine bxE 2 #[.int .i64 Ah, .int .i64 Ai, .slice Am Af.length An] 28 ?_; intro Aq hg Dc hbox hb; have Aa := aM (hbox); have Ar := gwS hg Z0; have Ab := gwS hg Z0; replace HB := hbS Z0 hb; clear hb hbox hg) | ((with_reducible refine gate_dst (N := 3) rfl ?_); refine bxE 3 #[.int .i64 Aj, .int .i64 Ak, .slice Ao Ag.length Ap] 28 ?_; intro Au hg Dd hbox hb; have Ae := aM (hbox); have Aw := gwS hg Z24; have Al := gwS hg Z24; replace HB := hbS Z24 hb; have Ac := nbL hg Aa; have Ad := nbG hg Aa; replace Aa := bkB Aa hb; clear hb hbox hg; have C4 := Ac.out; have C5 := Ad.out; obtain ⟨Cm, Cn, Co⟩ := bz3 Aa; obtain ⟨Cp, Cq, Cr⟩ := fz3 Aa; obtain ⟨Cs, Ct, Cu⟩ := bz3 Ae; obtain ⟨Cv, Cw, Cx⟩ := fz3 Ae))
  go_ret
  exact ⟨Z6, Z39⟩
def laws_markIntS.l0 : Nat → List Int → Int → Int → Option (Int × List Int)
 | 0, _, _, _ => none
 | k + 1, x0, x1, x5 => if x5 < (x0.length : Int) then (if 0 ≤ x5 then (laws_markIntS.l0 k (x0.set (x5 : Int).toNat x1) (wrap64 (x1 + 1)) (wrap64 (x5 + 1))) else (none)) else (some (x1, x0))
def laws_markIntS.f (k : Nat) (l0 : List Int) (a1 : Int) : Option (Int × List Int) := laws_markIntS.l0 k l0 a1 0
theorem laws_markIntS.calls (k : Nat) (P0_ : Nat → Prop) (u9000_ : Value) (l0 : List Int) (a1 : Int) (r1 : Int) (r2 : List Int) (w0 w : World) (hB : Below w0.heap.size w0 w) (Ao : Kd.R (Kd.int .i64) 3 w w0.heap.size P0_ u9000_ l0) (h : laws_markIntS.f k l0 a1 = some (r1, r2)) :
  Calls Try.prog 21 #[u9000_, .int .i64 a1] w fun e w' => e = .returned (.int .i64 r1) ∧ Kd.R (Kd.int .i64) 3 w' w0.heap.size (fun k_ => (P0_ k_ ∨ w.heap.size ≤ k_)) u9000_ r2 ∧ Below w0.heap.size w0 w' ∧ Kept w w' (fun k_ => P0_ k_) := by
 have Ap := aM (show Kd.R (Kd.int .i64) 3 w w0.heap.size (fun k_ => (P0_ k_ ∨ w.heap.size ≤ k_)) u9000_ l0 from Kd.R_mono Ao (fun k_ hk => (.inl hk))); have HK := aM (Kept.refl w (fun k_ => P0_ k_)); have Ax := Aside0.mk hB.size; have HB := Aside0.mk hB; clear hB; have H : (laws_markIntS.l0 k l0 a1 0) = some (r1, r2) := h; clear h; have H' := Aside0.mk H; clear H
 go_enter Try.func21, Try.ntmps21
 go_wp2
 go_loopg [1, 5] k (fun kq v1 v5 w' => ∃ (Ac : List Int) (Ad : Int) (Aa : Int), v1 = .int .i64 Ad ∧ v5 = .int .i64 Aa ∧ Aside0 (laws_markIntS.l0 kq Ac Ad Aa = some (r1, r2)) ∧ Aside0 (kq ≤ k) ∧ Aside0 (Kd.R (Kd.int .i64) 3 w' w0.heap.size (fun k_ => (P0_ k_ ∨ w.heap.size ≤ k_)) u9000_ Ac) ∧ Aside0 (Kept w w' (fun k_ => P0_ k_)) ∧ Aside0 (Below w0.heap.size w0 w'))
 case atStart => exact ⟨(l0), (a1), (0), Z7, Z7, H', ⟨Nat.le_refl _⟩, ⟨Z68⟩, ⟨Z5⟩, ⟨Z0⟩⟩
 case round =>
  clear H'; (try clear c2); (try clear p2); obtain ⟨Ac, Ad, Aa, rfl, rfl, HA, HK1, Ab, HK, HB⟩ := hrel; cases gk with
  | zero => exact absurd HA.out (by simp [laws_markIntS.l0])
  | succ k1 =>
   have H := HA.out; clear HA
   simp only [laws_markIntS.l0] at H
   by_cases c3 : Aa < (Ac.length : Int)
   ·rw [if_pos c3] at H
    have c3b0 : decide (Aa < (Ac.length : Int)) = true := decide_eq_true c3; clear c3
    by_cases c4 : 0 ≤ Aa
    ·rw [if_pos c4] at H
     have c4b0 : decide (0 ≤ Aa) = true := decide_eq_true c4; clear c4; obtain ⟨Af, Ae⟩ : ∃ y_ : List Int, y_ = (Ac.set (Aa : Int).toNat Ad) := ⟨_, rfl⟩
     replace H : (laws_markIntS.l0 k1 Af (wrap64 (Ad + 1)) (wrap64 (Aa + 1))) = some (r1, r2) := by first | (rw [Ae]; with_reducible exact H) | (have H2_ := (Option.bind_some _ _).symm.trans H; rw [Ae]; with_reducible exact H2_) | (have H2_ := (Option.bind_some _ _).symm.trans H; with_reducible exact H2_) | with_reducible exact H | (rw [Ae]; exact H) | exact H
     have Ag := Aside0.mk Ae; clear Ae; have H' := Aside0.mk H; clear H; obtain ⟨Ay, Aq, Ar⟩ := Kd.R_slice Ab.out; subst Ar; have p5 : 0 ≤ (Aa : Int) := of_decide_eq_true Z3; have q5 : (Aa : Int) < ((Ac.length : Int) : Int) := of_decide_eq_true Z3; obtain ⟨Ah, Az, Aj, Ak, gl5, cl5, HG5⟩ := Kd.R_form Ab.out (by omega)
     (first | cases Aj | (injection Aj with ea_ en_ ec_; (first | subst ea_ | (injection ea_ with ea_; subst ea_)); subst ec_; clear en_))
     have Au := Aside0.mk Ak; have Ba := Aside0.mk HG5; clear Ak gl5 HG5; have Al := aM (show (P0_ Ah ∨ w.heap.size ≤ Ah) from (Ab.out.1 _ rfl)); obtain ⟨Am, An⟩ := Kd.R_celln 0 Ab.out (Aa : Int) p5 q5; replace p5 := eq_true p5; replace q5 := eq_true q5; have Ai := Kd.R_putg Ab.out (Aa : Int) Ad
     go_wp2_with (first | ((with_reducible refine gate_store (t := 3) (p := 15) rfl ?_); refine store_event (t := 3) (p := 15) (v := ?vo_w8) (w1 := (wr.setCell ⟨Ah, (Aa : Int).toNat, none⟩ (.int .i64 Ad))) ?hg ?ho ?hn ?hr ?_; (case ho => rfl); (case hg => rfl); (case hn => rfl); (case hr => first | (go_simp; done) | (go_simp; rfl)); intro w8 hw; have hg : wr.grownBy w8 (some Ah) := (by rw [hw]; exact Ai.2); have hp_ : Kd.R (Kd.int .i64) 3 w8 w0.heap.size (fun k_ => (P0_ k_ ∨ w.heap.size ≤ k_)) (.slice (some ⟨Ah, 0, none⟩) Ac.length Aq) Af := (by rw [hw, Ag.out]; exact Ai.1); clear Ai; replace HB := aM ((by rw [hw]; exact below_set (HB.out) Au.out : Below w0.heap.size w0 w8)); replace HK := aM (Kept.of_grown (S := (fun k_ => P0_ k_)) hg Z5 (fun k_ e_ => (Ab.out.1 k_ e_))); replace Ab := aM (hp_); clear hg hw hp_))
     go_roundg k1
     case measure => have := HK1.out; omega
     case rel => exact ⟨(Af), (wrap64 (Ad + 1)), (wrap64 (Aa + 1)), Z7, Z7, H', ⟨Z66⟩, ⟨Z123⟩, ⟨Z5⟩, ⟨Z0⟩⟩
    ·rw [if_neg c4] at H
     exact absurd H (by simp)
   ·rw [if_neg c3] at H
    have c3b0 : decide (Aa < (Ac.length : Int)) = false := decide_eq_false c3; clear c3
    simp only [Option.some.injEq, Prod.mk.injEq] at H
    obtain ⟨rfl, rfl⟩ := H; obtain ⟨Bb, Bc, Aw⟩ := Kd.R_slice Ab.out; subst Aw
    go_wp2
    go_ret
    exact ⟨Z6, Z123, Z0, Z5⟩
def laws_markChart.f (k : Nat) (a0_0 : Int) (a0_1 : Int) (l0_2 : List Int) (a1 : Int) : Option (Int × List Int) := (laws_markIntS.f k l0_2 a1).bind fun bt121 => (some (bt121.1, bt121.2))
theorem laws_markChart.calls (k : Nat) (Ah : Int) (Ai : Int) (P0_2_ : Nat → Prop) (u9000_ : Value) (Ab : List Int) (a1 : Int) (r1 : Int) (r2 : List Int) (w0 w : World) (hB : Below w0.heap.size w0 w) (Aj : Kd.R (Kd.int .i64) 3 w w0.heap.size P0_2_ u9000_ Ab) (h : laws_markChart.f k Ah Ai Ab a1 = some (r1, r2)) :
  Calls Try.prog 20 #[.agg #[.int .i64 Ah, .int .i64 Ai, u9000_], .int .i64 a1] w fun e w' => e = .returned (.int .i64 r1) ∧ Kd.R (Kd.int .i64) 3 w' w0.heap.size (fun k_ => (P0_2_ k_ ∨ w.heap.size ≤ k_)) u9000_ r2 ∧ Below w0.heap.size w0 w' ∧ Kept w w' (fun k_ => P0_2_ k_) := by
 have hu28 := Try.underlying28; have Aa := aM (show Kd.R (Kd.int .i64) 3 w w0.heap.size (fun k_ => (P0_2_ k_ ∨ w.heap.size ≤ k_)) u9000_ Ab from Kd.R_mono Aj (fun k_ hk => (.inl hk))); have HK := aM (Kept.refl w (fun k_ => P0_2_ k_)); have Ba := Aside0.mk hB.size; have HB := Aside0.mk hB; clear hB; have H : ((laws_markIntS.f k Ab a1).bind fun Ad => (some (Ad.1, Ad.2))) = some (r1, r2) := h; clear h; replace H := Option.bind_eq_some_iff.mp H; obtain ⟨⟨Ak, Al⟩, Ax, H⟩ := H; replace H : (some (Ak, Al)) = some (r1, r2) := H; have A3 := Aside0.mk Ax; clear Ax
 simp only [Option.some.injEq, Prod.mk.injEq] at H
 obtain ⟨rfl, rfl⟩ := H; obtain ⟨Am, An, Az⟩ := Kd.R_slice Aa.out; subst Az
 go_enter Try.func20, Try.ntmps20
 go_wp2_with (first | ((with_reducible refine gate_dst (N := 2) rfl ?_); refine bxE 2 #[.int .i64 Ah, .int .i64 Ai, .slice Am Ab.length An] 28 ?_; intro Ae hg w5 hbox hb; replace Aa := roB Aa hb; have Ac := aM (hbox); have Af := aM ((by rw [hg]; exact (by first | exact HK.out.1 | exact (show Kept w _ (fun k_ => P0_2_ k_) from Z5).1) : w.heap.size ≤ Ae)); replace HK := aM (Kept.below (S := (fun k_ => P0_2_ k_)) Z5 hb); have Ag := aM ((by rw [hg]; exact (below_size Z0) : w0.heap.size ≤ Ae)); replace HB := hbS Z0 hb; clear hb hbox hg; obtain ⟨Ao, Ap, Aq⟩ := bz3 Ac; obtain ⟨Ar, Au, Aw⟩ := fz3 Ac) | ((with_reducible refine gate_callee (f := 21) rfl ?_); refine glE (some 8) Try.func21 #[.slice Am Ab.length An, .int .i64 a1] ?_; (with_reducible refine (laws_markIntS.calls k (fun k_ => some k_ = (.slice Am Ab.length An : Value).ownBlock) (.slice Am Ab.length An) Ab a1 Ak Al w0 _ ?side1 ?side2 A3.out).mono ?_); (case side1 => exact Z27); (case side2 => exact Kd.R_tight rfl Aa.out); rintro e w7 ⟨rfl, Ay, hb, hkp⟩; refine ⟨_, rfl, ?_⟩; replace Ac := aM (blk_kept Z13 hkp (fun hs_ => (fun e_ => (Kd.R_ne Aa.out Ac.out (by decide)) e_) hs_)); replace HK := aM (Kept.then_ (S := (fun k_ => P0_2_ k_)) Z84 hkp (fun k_ hs_ => (fun e_ => (Aa.out.1 k_ e_.symm)) hs_)); replace Aa := aM (Kd.R_reok rfl Ay (fun k_ e_ => Aa.out.1 k_ e_)); replace HB := aM (hb); (try clear hb); (try clear hkp); (try clear Ay)))
 go_ret
 exact ⟨Z6, Z17, Z27, Z84⟩
def laws_heldIntS.l0 : Nat → List Int → Int → Int → Option (Int)
 | 0, _, _, _ => none
 | k + 1, x0, x1, x5 => if x5 < (x0.length : Int) then (if 0 ≤ x5 then (if (rd x0 x5) = x1 then (laws_heldIntS.l0 k x0 (wrap64 (x1 + 1)) (wrap64 (x5 + 1))) else (some (-1))) else (none)) else (some x1)
def laws_heldIntS.f (k : Nat) (l0 : List Int) (a1 : Int) : Option (Int) := laws_heldIntS.l0 k l0 a1 0
theorem laws_heldIntS.calls (k : Nat) (A0 : Option Addr) (c0 : Nat) (l0 : List Int) (a1 : Int) (r : Int) (w : World) (Af : Kd.C (Kd.int .i64) w A0 l0.length l0) (Ag : l0.length ≤ c0) (h : laws_heldIntS.f k l0 a1 = some r) :
  Calls Try.prog 22 #[.slice A0 l0.length c0, .int .i64 a1] w fun e w' => e = .returned (.int .i64 r) ∧ Drawn0 w w' := by
 have Ah := Aside0.mk Af; have Ai := Aside0.mk Ag; clear Af Ag; have H : (laws_heldIntS.l0 k l0 a1 0) = some r := h; clear h; have H' := Aside0.mk H; clear H
 go_enter Try.func22, Try.ntmps22
 go_wp2
 go_loopg [1, 5] k (fun kq v1 v5 w' => ∃ (Ab : Int) (Aa : Int), v1 = .int .i64 Ab ∧ v5 = .int .i64 Aa ∧ Aside0 (laws_heldIntS.l0 kq l0 Ab Aa = some r) ∧ Aside0 (kq ≤ k) ∧ Drawn0 w w')
 case atStart => exact ⟨(a1), (0), Z7, Z7, H', ⟨Nat.le_refl _⟩, Z23⟩
 case round =>
  clear H'; (try clear c2); (try clear p2); obtain ⟨Ab, Aa, rfl, rfl, HA, HK1, ⟨m1, rfl⟩⟩ := hrel; cases gk with
  | zero => exact absurd HA.out (by simp [laws_heldIntS.l0])
  | succ k1 =>
   have H := HA.out; clear HA
   simp only [laws_heldIntS.l0] at H
   by_cases c3 : Aa < (l0.length : Int)
   ·rw [if_pos c3] at H
    have c3b0 : decide (Aa < (l0.length : Int)) = true := decide_eq_true c3; clear c3
    by_cases c4 : 0 ≤ Aa
    ·rw [if_pos c4] at H
     have c4b0 : decide (0 ≤ Aa) = true := decide_eq_true c4; clear c4
     by_cases c5 : (rd l0 Aa) = Ab
     ·rw [if_pos c5] at H
      have c5b0 : ((rd l0 Aa) == Ab) = true := beq_iff_eq.mpr c5; have c5b1 : ((rd l0 Aa) != Ab) = false := bne_eq_false_iff_eq.mpr c5; clear c5; have H' := Aside0.mk H; clear H; have Ac : 0 ≤ (Aa : Int) := of_decide_eq_true Z3; have Ad : Aa < (l0.length : Int) := of_decide_eq_true Z3; obtain ⟨ad123, e123, Ae⟩ := Kd.at_int Ah.out Aa Ac Ad; cases e123; replace Ac := eq_true Ac; replace Ad := eq_true Ad
      go_wp2
      go_roundg k1
      case measure => have := HK1.out; omega
      case rel => exact ⟨(wrap64 (Ab + 1)), (wrap64 (Aa + 1)), Z7, Z7, H', ⟨Z66⟩, Z23⟩
     ·rw [if_neg c5] at H
      have c5b0 : ((rd l0 Aa) == Ab) = false := beq_eq_false_iff_ne.mpr c5; have c5b1 : ((rd l0 Aa) != Ab) = true := bne_iff_ne.mpr c5; obtain rfl := Option.some.inj H; have Ac : 0 ≤ (Aa : Int) := of_decide_eq_true Z3; have Ad : Aa < (l0.length : Int) := of_decide_eq_true Z3; obtain ⟨ad123, e123, Ae⟩ := Kd.at_int Ah.out Aa Ac Ad; cases e123; replace Ac := eq_true Ac; replace Ad := eq_true Ad
      go_wp2
      go_ret
      exact ⟨Z7, Z23⟩
    ·rw [if_neg c4] at H
     exact absurd H (by simp)
   ·rw [if_neg c3] at H
    have c3b0 : decide (Aa < (l0.length : Int)) = false := decide_eq_false c3; clear c3; obtain rfl := Option.some.inj H
    go_wp2
    go_ret
    exact ⟨Z7, Z23⟩
mutual
def spec_l12Next.j0 : Nat → Int → Int → Int → List Int → Int → Int → List Int → Option (List Int)
 | 0, _, _, _, _, _, _, _ => none
 | k + 1, x1, x5, x6, x7, x125000, x125001, x125002 => if x6 > 0 then (if x7.length < 17592186044416 then (spec_l12Next.j1 k x1 x5 x6 (x7 ++ [wrap64 (x1 - 1)]) x125000 x125001 x125002) else (none)) else (spec_l12Next.j1 k x1 x5 x6 x7 x125000 x125001 x125002)
def spec_l12Next.j1 : Nat → Int → Int → Int → List Int → Int → Int → List Int → Option (List Int)
 | 0, _, _, _, _, _, _, _ => none
 | k + 1, x1, x5, x6, x7, x125000, x125001, x125002 => if x6 < (wrap64 (x125000 - 1)) then (if x7.length < 17592186044416 then ((some (x7 ++ [wrap64 (x1 + 1)] : List Int)).bind fun y134 => (if x5 < (wrap64 (x125001 - 1)) then (if y134.length < 17592186044416 then (some (y134 ++ [wrap64 (x1 + x125000)])) else (none)) else (some y134))) else (none)) else (if x5 < (wrap64 (x125001 - 1)) then (if x7.length < 17592186044416 then (some (x7 ++ [wrap64 (x1 + x125000)])) else (none)) else (some x7))
end
def spec_l12Next.f (k : Nat) (a0_0 : Int) (a0_1 : Int) (l0_2 : List Int) (a1 : Int) : Option (List Int) := if a0_0 = 0 then (none) else ((some (([] : List Int) : List Int)).bind fun y125 => (if (wrap64 (Int.tdiv a1 a0_0)) > 0 then (if y125.length < 17592186044416 then (spec_l12Next.j0 k a1 (wrap64 (Int.tdiv a1 a0_0)) (Int.tmod a1 a0_0) (y125 ++ [wrap64 (a1 - a0_0)]) a0_0 a0_1 l0_2) else (none)) else (spec_l12Next.j0 k a1 (wrap64 (Int.tdiv a1 a0_0)) (Int.tmod a1 a0_0) y125 a0_0 a0_1 l0_2)))
theorem spec_l12Next.calls (k : Nat) (Ab : Int) (Ad : Int) (Ah : Option Addr) (Ai : Nat) (Af : List Int) (a1 : Int) (r : List Int) (w : World) (Cf : Kd.C (Kd.int .i64) w Ah Af.length Af) (Cg : Af.length ≤ Ai) (h : spec_l12Next.f k Ab Ad Af a1 = some r) :
  Calls Try.prog 66 #[.agg #[.int .i64 Ab, .int .i64 Ad, .slice Ah Af.length Ai], .int .i64 a1] w fun e w' => ∃ v0_ : Value, e = .returned (v0_) ∧ Kd.R (Kd.int .i64) 3 w' w.heap.size (fun _ => True) v0_ r ∧ Below w.heap.size w w' := by
 have hu28 := Try.underlying28; have Dr := Aside0.mk Cf; have Ds := Aside0.mk Cg; clear Cf Cg; have HB := aM (Below.refl w.heap.size w); have H : (if Ab = 0 then (none) else ((some (([] : List Int) : List Int)).bind fun Am => (if (wrap64 (Int.tdiv a1 Ab)) > 0 then (if Am.length < 17592186044416 then (spec_l12Next.j0 k a1 (wrap64 (Int.tdiv a1 Ab)) (Int.tmod a1 Ab) (Am ++ [wrap64 (a1 - Ab)]) Ab Ad Af) else (none)) else (spec_l12Next.j0 k a1 (wrap64 (Int.tdiv a1 Ab)) (Int.tmod a1 Ab) Am Ab Ad Af)))) = some r := h; clear h
 by_cases c3 : Ab = 0
 ·rw [if_pos c3] at H
  exact absurd H (by simp)
 ·rw [if_neg c3] at H
  have c3b0 : (Ab == 0) = false := beq_eq_false_iff_ne.mpr c3; have c3b1 : (Ab != 0) = true := bne_iff_ne.mpr c3; obtain ⟨Am, Az⟩ : ∃ y_ : List Int, y_ = (([] : List Int)) := ⟨_, rfl⟩
  replace H : (if (wrap64 (Int.tdiv a1 Ab)) > 0 then (if Am.length < 17592186044416 then (spec_l12Next.j0 k a1 (wrap64 (Int.tdiv a1 Ab)) (Int.tmod a1 Ab) (Am ++ [wrap64 (a1 - Ab)]) Ab Ad Af) else (none)) else (spec_l12Next.j0 k a1 (wrap64 (Int.tdiv a1 Ab)) (Int.tmod a1 Ab) Am Ab Ad Af)) = some r := by first | (rw [Az]; with_reducible exact H) | (have H2_ := (Option.bind_some _ _).symm.trans H; rw [Az]; with_reducible exact H2_) | (have H2_ := (Option.bind_some _ _).symm.trans H; with_reducible exact H2_) | with_reducible exact H | (rw [Az]; exact H) | exact H
  have An := Aside0.mk Az; clear Az; have Dn := Aside0.mk H; clear H
  go_enter Try.func66, Try.ntmps66
  go_upto_if 18 with (first | ((with_reducible refine gate_dst (N := 2) rfl ?_); refine bxE 2 #[.int .i64 Ab, .int .i64 Ad, .slice Ah Af.length Ai] 28 ?_; intro Ag hg w5 hbox hb; have Aa := aM (hbox); have Ch := gwS hg Z0; have Ac := gwS hg Z0; replace HB := hbS Z0 hb; clear hb hbox hg; obtain ⟨Ap, Aq, Ar⟩ := bz3 Aa; obtain ⟨Au, Aw, Ax⟩ := fz3 Aa) | ((with_reducible refine gate_dst (N := 16) rfl ?_); refine Kd.R_lit (Kd.int .i64) _ 3 ?hg (N := 16) ?hd (xs := ([] : List Int)) (inner := []) (ok := fun _ => True) (okp := fun _ => True) ?hr ?hp (fun _ hk => hk) trivial (Below.refl _ _) (Nat.le_refl _) (by simp) ?_; (case hd => rfl); (case hg => rfl); (case hr => first | (go_simp; done) | (go_simp; rfl)); (case hp => exact (Reps.none _ _)); intro B4 w7 Ba hb hg_ hnew_; clear hg_ hnew_; (first | rw [← An.out] at Ba | (simp only [Int.reduceToNat] at Ba; rw [← An.out] at Ba)); have Al := aM (Kd.R_lower Ba (below_size Z1)); replace Aa := bkB Aa hb; replace HB := hbS Z1 hb; clear hb Ba))
  repeat (go_quiet (first | ((with_reducible refine gate_dst (N := 2) rfl ?_); refine bxE 2 #[.int .i64 Ab, .int .i64 Ad, .slice Ah Af.length Ai] 28 ?_; intro Ag hg w5 hbox hb; have Aa := aM (hbox); have Ch := gwS hg Z0; have Ac := gwS hg Z0; replace HB := hbS Z0 hb; clear hb hbox hg; obtain ⟨Ap, Aq, Ar⟩ := bz3 Aa; obtain ⟨Au, Aw, Ax⟩ := fz3 Aa) | ((with_reducible refine gate_dst (N := 16) rfl ?_); refine Kd.R_lit (Kd.int .i64) _ 3 ?hg (N := 16) ?hd (xs := ([] : List Int)) (inner := []) (ok := fun _ => True) (okp := fun _ => True) ?hr ?hp (fun _ hk => hk) trivial (Below.refl _ _) (Nat.le_refl _) (by simp) ?_; (case hd => rfl); (case hg => rfl); (case hr => first | (go_simp; done) | (go_simp; rfl)); (case hp => exact (Reps.none _ _)); intro B4 w7 Ba hb hg_ hnew_; clear hg_ hnew_; (first | rw [← An.out] at Ba | (simp only [Int.reduceToNat] at Ba; rw [← An.out] at Ba)); have Al := aM (Kd.R_lower Ba (below_size Z1)); replace Aa := bkB Aa hb; replace HB := hbS Z1 hb; clear hb Ba)); go_upto_if 18 with (first | ((with_reducible refine gate_dst (N := 2) rfl ?_); refine bxE 2 #[.int .i64 Ab, .int .i64 Ad, .slice Ah Af.length Ai] 28 ?_; intro Ag hg w5 hbox hb; have Aa := aM (hbox); have Ch := gwS hg Z0; have Ac := gwS hg Z0; replace HB := hbS Z0 hb; clear hb hbox hg; obtain ⟨Ap, Aq, Ar⟩ := bz3 Aa; obtain ⟨Au, Aw, Ax⟩ := fz3 Aa) | ((with_reducible refine gate_dst (N := 16) rfl ?_); refine Kd.R_lit (Kd.int .i64) _ 3 ?hg (N := 16) ?hd (xs := ([] : List Int)) (inner := []) (ok := fun _ => True) (okp := fun _ => True) ?hr ?hp (fun _ hk => hk) trivial (Below.refl _ _) (Nat.le_refl _) (by simp) ?_; (case hd => rfl); (case hg => rfl); (case hr => first | (go_simp; done) | (go_simp; rfl)); (case hp => exact (Reps.none _ _)); intro B4 w7 Ba hb hg_ hnew_; clear hg_ hnew_; (first | rw [← An.out] at Ba | (simp only [Int.reduceToNat] at Ba; rw [← An.out] at Ba)); have Al := aM (Kd.R_lower Ba (below_size Z1)); replace Aa := bkB Aa hb; replace HB := hbS Z1 hb; clear hb Ba)))
  (try simp only [Act.put, List.setIfInBounds_toArray, List.set_cons_zero, List.set_cons_succ])
  go_cut [7] (fun v7 wc => ∃ (kq : Nat) (Ay : List Int), Aside0 (spec_l12Next.j0 kq a1 (wrap64 (Int.tdiv a1 Ab)) (Int.tmod a1 Ab) Ay Ab Ad Af = some r) ∧ Aside0 (kq ≤ k) ∧ Aside0 (Kd.R (Kd.int .i64) 3 wc w.heap.size (fun _ => True) v7 Ay) ∧ Aside0 (wc.heap[Ag]? = some (.cells #[.int .i64 Ab, .int .i64 Ad, (.slice Ah Af.length Ai)] 28 (0, 0))) ∧ Aside0 (Below w.heap.size w wc))
  case first =>
   have H := Dn.out; clear Dn
   by_cases c9 : (wrap64 (Int.tdiv a1 Ab)) > 0
   ·rw [if_pos c9] at H
    have c9b0 : decide (0 < (wrap64 (Int.tdiv a1 Ab))) = true := decide_eq_true c9; clear c9
    (first | rw [c9b0] | (simp only [i64_w, i32_w]; rw [c9b0]) | skip)
    by_cases Ck : Am.length < 17592186044416
    ·rw [if_pos Ck] at H
     have LMc10 := Aside0.mk Ck; clear Ck; obtain ⟨Co, Bb⟩ : ∃ y_ : List Int, y_ = (Am ++ [wrap64 (a1 - Ab)]) := ⟨_, rfl⟩
     replace H : (spec_l12Next.j0 k a1 (wrap64 (Int.tdiv a1 Ab)) (Int.tmod a1 Ab) Co Ab Ad Af) = some r := by first | (rw [Bb]; with_reducible exact H) | (have H2_ := (Option.bind_some _ _).symm.trans H; rw [Bb]; with_reducible exact H2_) | (have H2_ := (Option.bind_some _ _).symm.trans H; with_reducible exact H2_) | with_reducible exact H | (rw [Bb]; exact H) | exact H
     have B5 := Aside0.mk Bb; clear Bb; have H' := Aside0.mk H; clear H; obtain ⟨Bj, Bk, Bl⟩ := bz3 Aa; obtain ⟨Bm, Bn, Bo⟩ := fz3 Aa
     go_wp2_with (first | ((with_reducible refine gate_builtin (b := .append) (xs := #[.tmp 19, .tmp 24]) rfl ?_); at_builtin; refine Kd.R_append (Kd.int .i64) (w0 := w) w.heap.size rfl (.tmp 19) (.tmp 24) 22 3 (.int .i64 0) 8 rfl Try.underlying22 info3 rfl (by decide) (by omega) B4 Am (wrap64 (a1 - Ab)) [.int .i64 (wrap64 (a1 - Ab))] (fun _ => True) (fun _ => False) rfl rfl ?aP (fun _ hk => hk.elim) ?aF ?aO ?aB ?aS ?aL ?_; (case aP => exact rfl); (case aB => exact Z1); (case aF => exact (fun _ _ => trivial)); (case aO => exact Z34); (case aS => exact (below_size Z1)); (case aL => have := LMc10.out; omega); intro Cp Dt ho hb hg hat; rw [← B5.out] at ho; replace Aa := aM (blk_grown (g := Ag) (o := .cells #[.int .i64 Ab, .int .i64 Ad, .slice Ah Af.length Ai] 28 (0, 0)) Z14 hg (Kd.R_ne Al.out Aa.out (by decide))); replace HB := aM (hb); have B6 := aM (ho); clear Al; clear ho hb hg hat))
     repeat (go_quiet (first | ((with_reducible refine gate_builtin (b := .append) (xs := #[.tmp 19, .tmp 24]) rfl ?_); at_builtin; refine Kd.R_append (Kd.int .i64) (w0 := w) w.heap.size rfl (.tmp 19) (.tmp 24) 22 3 (.int .i64 0) 8 rfl Try.underlying22 info3 rfl (by decide) (by omega) B4 Am (wrap64 (a1 - Ab)) [.int .i64 (wrap64 (a1 - Ab))] (fun _ => True) (fun _ => False) rfl rfl ?aP (fun _ hk => hk.elim) ?aF ?aO ?aB ?aS ?aL ?_; (case aP => exact rfl); (case aB => exact Z1); (case aF => exact (fun _ _ => trivial)); (case aO => exact Z34); (case aS => exact (below_size Z1)); (case aL => have := LMc10.out; omega); intro Cp Dt ho hb hg hat; rw [← B5.out] at ho; replace Aa := aM (blk_grown (g := Ag) (o := .cells #[.int .i64 Ab, .int .i64 Ad, .slice Ah Af.length Ai] 28 (0, 0)) Z14 hg (Kd.R_ne Al.out Aa.out (by decide))); replace HB := aM (hb); have B6 := aM (ho); clear Al; clear ho hb hg hat)); try go_wp2_with (first | ((with_reducible refine gate_builtin (b := .append) (xs := #[.tmp 19, .tmp 24]) rfl ?_); at_builtin; refine Kd.R_append (Kd.int .i64) (w0 := w) w.heap.size rfl (.tmp 19) (.tmp 24) 22 3 (.int .i64 0) 8 rfl Try.underlying22 info3 rfl (by decide) (by omega) B4 Am (wrap64 (a1 - Ab)) [.int .i64 (wrap64 (a1 - Ab))] (fun _ => True) (fun _ => False) rfl rfl ?aP (fun _ hk => hk.elim) ?aF ?aO ?aB ?aS ?aL ?_; (case aP => exact rfl); (case aB => exact Z1); (case aF => exact (fun _ _ => trivial)); (case aO => exact Z34); (case aS => exact (below_size Z1)); (case aL => have := LMc10.out; omega); intro Cp Dt ho hb hg hat; rw [← B5.out] at ho; replace Aa := aM (blk_grown (g := Ag) (o := .cells #[.int .i64 Ab, .int .i64 Ad, .slice Ah Af.length Ai] 28 (0, 0)) Z14 hg (Kd.R_ne Al.out Aa.out (by decide))); replace HB := aM (hb); have B6 := aM (ho); clear Al; clear ho hb hg hat)))
     go_meet
     case rel => exact ⟨_, (Co), H', ⟨Z103⟩, ⟨by (with_reducible repeat (first | apply Kd.R_alloc | apply Kd.R_drewN | apply Kd.R_drew)); exact B6.out⟩, ⟨Z14⟩, ⟨Z1⟩⟩
    ·rw [if_neg Ck] at H
     exact absurd H (by simp)
   ·rw [if_neg c9] at H
    have c9b0 : decide (0 < (wrap64 (Int.tdiv a1 Ab))) = false := decide_eq_false c9; clear c9
    (first | rw [c9b0] | (simp only [i64_w, i32_w]; rw [c9b0]) | skip)
    have H' := Aside0.mk H; clear H
    go_wp2
    repeat (go_quiet (fail); try go_wp2)
    go_meet
    case rel => exact ⟨_, (Am), H', ⟨Z103⟩, ⟨Z34⟩, ⟨Z14⟩, ⟨Z1⟩⟩
  case rest =>
   clear Dn; (try clear c1); (try clear p2); (try clear c3); (try clear c3b0); (try clear c3b1); (try clear c6); (try clear p6); (try clear c9); (try clear c9b0); (try clear Ck); (try clear Bj); (try clear Bk); (try clear Bl); (try clear Ap); (try clear Aq); (try clear Ar); (try clear Bm); (try clear Bn); (try clear Bo); (try clear Au); (try clear Aw); (try clear Ax); obtain ⟨kq, Ay, HA, HJ3, Ae, Aa, HB⟩ := hcut; cases kq with
   | zero => exact absurd HA.out (by simp [spec_l12Next.j0])
   | succ Du =>
    have H := HA.out; clear HA
    simp only [spec_l12Next.j0] at H
    have Ci := Aside0.mk H; clear H
    go_upto_if 27 with (fail)
    repeat (go_quiet (fail); go_upto_if 27 with (fail))
    go_cut [7] (fun v7 wc => ∃ (kq : Nat) (Aj : List Int), Aside0 (spec_l12Next.j1 kq a1 (wrap64 (Int.tdiv a1 Ab)) (Int.tmod a1 Ab) Aj Ab Ad Af = some r) ∧ Aside0 (kq ≤ Du) ∧ Aside0 (Kd.R (Kd.int .i64) 3 wc w.heap.size (fun _ => True) v7 Aj) ∧ Aside0 (wc.heap[Ag]? = some (.cells #[.int .i64 Ab, .int .i64 Ad, (.slice Ah Af.length Ai)] 28 (0, 0))) ∧ Aside0 (Below w.heap.size w wc))
    case first =>
     have H := Ci.out; clear Ci
     by_cases Cj : (Int.tmod a1 Ab) > 0
     ·rw [if_pos Cj] at H
      have c14b0 : decide (0 < (Int.tmod a1 Ab)) = true := decide_eq_true Cj; clear Cj
      (first | rw [c14b0] | (simp only [i64_w, i32_w]; rw [c14b0]) | skip)
      by_cases Cq : Ay.length < 17592186044416
      ·rw [if_pos Cq] at H
       have LMc15 := Aside0.mk Cq; clear Cq; obtain ⟨Cr, Bc⟩ : ∃ y_ : List Int, y_ = (Ay ++ [wrap64 (a1 - 1)]) := ⟨_, rfl⟩
       replace H : (spec_l12Next.j1 Du a1 (wrap64 (Int.tdiv a1 Ab)) (Int.tmod a1 Ab) Cr Ab Ad Af) = some r := by first | (rw [Bc]; with_reducible exact H) | (have H2_ := (Option.bind_some _ _).symm.trans H; rw [Bc]; with_reducible exact H2_) | (have H2_ := (Option.bind_some _ _).symm.trans H; with_reducible exact H2_) | with_reducible exact H | (rw [Bc]; exact H) | exact H
       have B7 := Aside0.mk Bc; clear Bc; have H' := Aside0.mk H; clear H
       go_wp2_with (first | ((with_reducible refine gate_builtin (b := .append) (xs := #[.tmp 28, .tmp 31]) rfl ?_); at_builtin; refine Kd.R_append (Kd.int .i64) (w0 := w) w.heap.size rfl (.tmp 28) (.tmp 31) 22 3 (.int .i64 0) 8 rfl Try.underlying22 info3 rfl (by decide) (by omega) u7 Ay (wrap64 (a1 - 1)) [.int .i64 (wrap64 (a1 - 1))] (fun _ => True) (fun _ => False) rfl rfl ?aP (fun _ hk => hk.elim) ?aF ?aO ?aB ?aS ?aL ?_; (case aP => exact rfl); (case aB => exact Z1); (case aF => exact (fun _ _ => trivial)); (case aO => exact Z25); (case aS => exact (below_size Z1)); (case aL => have := LMc15.out; omega); intro Cs Dv ho hb hg hat; rw [← B7.out] at ho; replace Aa := aM (blk_grown (g := Ag) (o := .cells #[.int .i64 Ab, .int .i64 Ad, .slice Ah Af.length Ai] 28 (0, 0)) Z14 hg (Kd.R_ne Ae.out Aa.out (by decide))); replace HB := aM (hb); have Ca := aM (ho); clear Ae; clear ho hb hg hat))
       repeat (go_quiet (first | ((with_reducible refine gate_builtin (b := .append) (xs := #[.tmp 28, .tmp 31]) rfl ?_); at_builtin; refine Kd.R_append (Kd.int .i64) (w0 := w) w.heap.size rfl (.tmp 28) (.tmp 31) 22 3 (.int .i64 0) 8 rfl Try.underlying22 info3 rfl (by decide) (by omega) u7 Ay (wrap64 (a1 - 1)) [.int .i64 (wrap64 (a1 - 1))] (fun _ => True) (fun _ => False) rfl rfl ?aP (fun _ hk => hk.elim) ?aF ?aO ?aB ?aS ?aL ?_; (case aP => exact rfl); (case aB => exact Z1); (case aF => exact (fun _ _ => trivial)); (case aO => exact Z25); (case aS => exact (below_size Z1)); (case aL => have := LMc15.out; omega); intro Cs Dv ho hb hg hat; rw [← B7.out] at ho; replace Aa := aM (blk_grown (g := Ag) (o := .cells #[.int .i64 Ab, .int .i64 Ad, .slice Ah Af.length Ai] 28 (0, 0)) Z14 hg (Kd.R_ne Ae.out Aa.out (by decide))); replace HB := aM (hb); have Ca := aM (ho); clear Ae; clear ho hb hg hat)); try go_wp2_with (first | ((with_reducible refine gate_builtin (b := .append) (xs := #[.tmp 28, .tmp 31]) rfl ?_); at_builtin; refine Kd.R_append (Kd.int .i64) (w0 := w) w.heap.size rfl (.tmp 28) (.tmp 31) 22 3 (.int .i64 0) 8 rfl Try.underlying22 info3 rfl (by decide) (by omega) u7 Ay (wrap64 (a1 - 1)) [.int .i64 (wrap64 (a1 - 1))] (fun _ => True) (fun _ => False) rfl rfl ?aP (fun _ hk => hk.elim) ?aF ?aO ?aB ?aS ?aL ?_; (case aP => exact rfl); (case aB => exact Z1); (case aF => exact (fun _ _ => trivial)); (case aO => exact Z25); (case aS => exact (below_size Z1)); (case aL => have := LMc15.out; omega); intro Cs Dv ho hb hg hat; rw [← B7.out] at ho; replace Aa := aM (blk_grown (g := Ag) (o := .cells #[.int .i64 Ab, .int .i64 Ad, .slice Ah Af.length Ai] 28 (0, 0)) Z14 hg (Kd.R_ne Ae.out Aa.out (by decide))); replace HB := aM (hb); have Ca := aM (ho); clear Ae; clear ho hb hg hat)))
       go_meet
       case rel => exact ⟨_, (Cr), H', ⟨Z137⟩, ⟨by (with_reducible repeat (first | apply Kd.R_alloc | apply Kd.R_drewN | apply Kd.R_drew)); exact Ca.out⟩, ⟨Z14⟩, ⟨Z1⟩⟩
      ·rw [if_neg Cq] at H
       exact absurd H (by simp)
     ·rw [if_neg Cj] at H
      have c14b0 : decide (0 < (Int.tmod a1 Ab)) = false := decide_eq_false Cj; clear Cj
      (first | rw [c14b0] | (simp only [i64_w, i32_w]; rw [c14b0]) | skip)
      have H' := Aside0.mk H; clear H
      go_wp2
      repeat (go_quiet (fail); try go_wp2)
      go_meet
      case rel => exact ⟨_, (Ay), H', ⟨Z137⟩, ⟨Z25⟩, ⟨Z14⟩, ⟨Z1⟩⟩
    case rest =>
     clear Ci; (try clear c1); (try clear p2); (try clear c3); (try clear c3b0); (try clear c3b1); (try clear c6); (try clear p6); (try clear c9); (try clear c9b0); (try clear Ck); (try clear Cj); (try clear c14b0); (try clear Cq); (try clear Bj); (try clear Bk); (try clear Bl); (try clear Ap); (try clear Aq); (try clear Ar); (try clear Bm); (try clear Bn); (try clear Bo); (try clear Au); (try clear Aw); (try clear Ax); (try clear p2); (try clear p6); obtain ⟨kq, Aj, HA, HJ12, Ae, Aa, HB⟩ := hcut; cases kq with
     | zero => exact absurd HA.out (by simp [spec_l12Next.j1])
     | succ D0 =>
      have H := HA.out; clear HA
      simp only [spec_l12Next.j1] at H
      by_cases Cl : (Int.tmod a1 Ab) < (wrap64 (Ab - 1))
      ·rw [if_pos Cl] at H
       have c17b0 : decide ((Int.tmod a1 Ab) < (wrap64 (Ab - 1))) = true := decide_eq_true Cl; clear Cl
       by_cases Cv : Aj.length < 17592186044416
       ·rw [if_pos Cv] at H
        have LMc18 := Aside0.mk Cv; clear Cv; obtain ⟨Bd, Bf⟩ : ∃ y_ : List Int, y_ = (Aj ++ [wrap64 (a1 + 1)]) := ⟨_, rfl⟩
        replace H : (if (wrap64 (Int.tdiv a1 Ab)) < (wrap64 (Ad - 1)) then (if Bd.length < 17592186044416 then (some (Bd ++ [wrap64 (a1 + Ab)])) else (none)) else (some Bd)) = some r := by first | (rw [Bf]; with_reducible exact H) | (have H2_ := (Option.bind_some _ _).symm.trans H; rw [Bf]; with_reducible exact H2_) | (have H2_ := (Option.bind_some _ _).symm.trans H; with_reducible exact H2_) | with_reducible exact H | (rw [Bf]; exact H) | exact H
        have Ao := Aside0.mk Bf; clear Bf
        by_cases Cm : (wrap64 (Int.tdiv a1 Ab)) < (wrap64 (Ad - 1))
        ·rw [if_pos Cm] at H
         have c19b0 : decide ((wrap64 (Int.tdiv a1 Ab)) < (wrap64 (Ad - 1))) = true := decide_eq_true Cm; clear Cm
         by_cases Cw : Bd.length < 17592186044416
         ·rw [if_pos Cw] at H
          have LMc20 := Aside0.mk Cw; clear Cw; obtain ⟨Dp, Bg⟩ : ∃ y_ : List Int, y_ = (Bd ++ [wrap64 (a1 + Ab)]) := ⟨_, rfl⟩
          replace H : (some Dp) = some r := by first | (rw [Bg]; with_reducible exact H) | (have H2_ := (Option.bind_some _ _).symm.trans H; rw [Bg]; with_reducible exact H2_) | (have H2_ := (Option.bind_some _ _).symm.trans H; with_reducible exact H2_) | with_reducible exact H | (rw [Bg]; exact H) | exact H
          have Cb := Aside0.mk Bg; clear Bg; obtain rfl := Option.some.inj H; obtain ⟨Cx, Cy, Cz⟩ := bz3 Aa; obtain ⟨C0, C1, C3⟩ := fz3 Aa
          go_wp2_with (first | ((with_reducible refine gate_builtin (b := .append) (xs := #[.tmp 38, .tmp 41]) rfl ?_); at_builtin; refine Kd.R_append (Kd.int .i64) (w0 := w) w.heap.size rfl (.tmp 38) (.tmp 41) 22 3 (.int .i64 0) 8 rfl Try.underlying22 info3 rfl (by decide) (by omega) u7 Aj (wrap64 (a1 + 1)) [.int .i64 (wrap64 (a1 + 1))] (fun _ => True) (fun _ => False) rfl rfl ?aP (fun _ hk => hk.elim) ?aF ?aO ?aB ?aS ?aL ?_; (case aP => exact rfl); (case aB => exact Z1); (case aF => exact (fun _ _ => trivial)); (case aO => exact Z25); (case aS => exact (below_size Z1)); (case aL => have := LMc18.out; omega); intro Bh Dw ho hb hg hat; rw [← Ao.out] at ho; replace Aa := aM (blk_grown (g := Ag) (o := .cells #[.int .i64 Ab, .int .i64 Ad, .slice Ah Af.length Ai] 28 (0, 0)) Z14 hg (Kd.R_ne Ae.out Aa.out (by decide))); replace HB := aM (hb); have Ak := aM (ho); clear Ae; clear ho hb hg hat; obtain ⟨Bp, Bq, Br⟩ := bz3 Aa; obtain ⟨Bs, Bt, Bu⟩ := fz3 Aa) | ((with_reducible refine gate_builtin (b := .append) (xs := #[.tmp 48, .tmp 53]) rfl ?_); at_builtin; refine Kd.R_append (Kd.int .i64) (w0 := w) w.heap.size rfl (.tmp 48) (.tmp 53) 22 3 (.int .i64 0) 8 rfl Try.underlying22 info3 rfl (by decide) (by omega) Bh Bd (wrap64 (a1 + Ab)) [.int .i64 (wrap64 (a1 + Ab))] (fun _ => True) (fun _ => False) rfl rfl ?aP (fun _ hk => hk.elim) ?aF ?aO ?aB ?aS ?aL ?_; (case aP => exact rfl); (case aB => exact Z1); (case aF => exact (fun _ _ => trivial)); (case aO => exact Z58); (case aS => exact (below_size Z1)); (case aL => have := LMc20.out; omega); intro Ct Dx ho hb hg hat; rw [← Cb.out] at ho; replace Aa := aM (blk_grown (g := Ag) (o := .cells #[.int .i64 Ab, .int .i64 Ad, .slice Ah Af.length Ai] 28 (0, 0)) Z14 hg (Kd.R_ne Ak.out Aa.out (by decide))); replace HB := aM (hb); have Cc := aM (ho); clear Ak; clear ho hb hg hat))
          repeat (go_quiet (first | ((with_reducible refine gate_builtin (b := .append) (xs := #[.tmp 38, .tmp 41]) rfl ?_); at_builtin; refine Kd.R_append (Kd.int .i64) (w0 := w) w.heap.size rfl (.tmp 38) (.tmp 41) 22 3 (.int .i64 0) 8 rfl Try.underlying22 info3 rfl (by decide) (by omega) u7 Aj (wrap64 (a1 + 1)) [.int .i64 (wrap64 (a1 + 1))] (fun _ => True) (fun _ => False) rfl rfl ?aP (fun _ hk => hk.elim) ?aF ?aO ?aB ?aS ?aL ?_; (case aP => exact rfl); (case aB => exact Z1); (case aF => exact (fun _ _ => trivial)); (case aO => exact Z25); (case aS => exact (below_size Z1)); (case aL => have := LMc18.out; omega); intro Bh Dw ho hb hg hat; rw [← Ao.out] at ho; replace Aa := aM (blk_grown (g := Ag) (o := .cells #[.int .i64 Ab, .int .i64 Ad, .slice Ah Af.length Ai] 28 (0, 0)) Z14 hg (Kd.R_ne Ae.out Aa.out (by decide))); replace HB := aM (hb); have Ak := aM (ho); clear Ae; clear ho hb hg hat; obtain ⟨Bp, Bq, Br⟩ := bz3 Aa; obtain ⟨Bs, Bt, Bu⟩ := fz3 Aa) | ((with_reducible refine gate_builtin (b := .append) (xs := #[.tmp 48, .tmp 53]) rfl ?_); at_builtin; refine Kd.R_append (Kd.int .i64) (w0 := w) w.heap.size rfl (.tmp 48) (.tmp 53) 22 3 (.int .i64 0) 8 rfl Try.underlying22 info3 rfl (by decide) (by omega) Bh Bd (wrap64 (a1 + Ab)) [.int .i64 (wrap64 (a1 + Ab))] (fun _ => True) (fun _ => False) rfl rfl ?aP (fun _ hk => hk.elim) ?aF ?aO ?aB ?aS ?aL ?_; (case aP => exact rfl); (case aB => exact Z1); (case aF => exact (fun _ _ => trivial)); (case aO => exact Z58); (case aS => exact (below_size Z1)); (case aL => have := LMc20.out; omega); intro Ct Dx ho hb hg hat; rw [← Cb.out] at ho; replace Aa := aM (blk_grown (g := Ag) (o := .cells #[.int .i64 Ab, .int .i64 Ad, .slice Ah Af.length Ai] 28 (0, 0)) Z14 hg (Kd.R_ne Ak.out Aa.out (by decide))); replace HB := aM (hb); have Cc := aM (ho); clear Ak; clear ho hb hg hat)); try go_wp2_with (first | ((with_reducible refine gate_builtin (b := .append) (xs := #[.tmp 38, .tmp 41]) rfl ?_); at_builtin; refine Kd.R_append (Kd.int .i64) (w0 := w) w.heap.size rfl (.tmp 38) (.tmp 41) 22 3 (.int .i64 0) 8 rfl Try.underlying22 info3 rfl (by decide) (by omega) u7 Aj (wrap64 (a1 + 1)) [.int .i64 (wrap64 (a1 + 1))] (fun _ => True) (fun _ => False) rfl rfl ?aP (fun _ hk => hk.elim) ?aF ?aO ?aB ?aS ?aL ?_; (case aP => exact rfl); (case aB => exact Z1); (case aF => exact (fun _ _ => trivial)); (case aO => exact Z25); (case aS => exact (below_size Z1)); (case aL => have := LMc18.out; omega); intro Bh Dw ho hb hg hat; rw [← Ao.out] at ho; replace Aa := aM (blk_grown (g := Ag) (o := .cells #[.int .i64 Ab, .int .i64 Ad, .slice Ah Af.length Ai] 28 (0, 0)) Z14 hg (Kd.R_ne Ae.out Aa.out (by decide))); replace HB := aM (hb); have Ak := aM (ho); clear Ae; clear ho hb hg hat; obtain ⟨Bp, Bq, Br⟩ := bz3 Aa; obtain ⟨Bs, Bt, Bu⟩ := fz3 Aa) | ((with_reducible refine gate_builtin (b := .append) (xs := #[.tmp 48, .tmp 53]) rfl ?_); at_builtin; refine Kd.R_append (Kd.int .i64) (w0 := w) w.heap.size rfl (.tmp 48) (.tmp 53) 22 3 (.int .i64 0) 8 rfl Try.underlying22 info3 rfl (by decide) (by omega) Bh Bd (wrap64 (a1 + Ab)) [.int .i64 (wrap64 (a1 + Ab))] (fun _ => True) (fun _ => False) rfl rfl ?aP (fun _ hk => hk.elim) ?aF ?aO ?aB ?aS ?aL ?_; (case aP => exact rfl); (case aB => exact Z1); (case aF => exact (fun _ _ => trivial)); (case aO => exact Z58); (case aS => exact (below_size Z1)); (case aL => have := LMc20.out; omega); intro Ct Dx ho hb hg hat; rw [← Cb.out] at ho; replace Aa := aM (blk_grown (g := Ag) (o := .cells #[.int .i64 Ab, .int .i64 Ad, .slice Ah Af.length Ai] 28 (0, 0)) Z14 hg (Kd.R_ne Ak.out Aa.out (by decide))); replace HB := aM (hb); have Cc := aM (ho); clear Ak; clear ho hb hg hat)))
          go_ret
          exact ⟨_, Z6, Z97, Z1⟩
         ·rw [if_neg Cw] at H
          exact absurd H (by simp)
        ·rw [if_neg Cm] at H
         have c19b0 : decide ((wrap64 (Int.tdiv a1 Ab)) < (wrap64 (Ad - 1))) = false := decide_eq_false Cm; clear Cm; obtain rfl := Option.some.inj H; obtain ⟨C4, C5, C6⟩ := bz3 Aa; obtain ⟨C7, C8, C9⟩ := fz3 Aa
         go_wp2_with (first | ((with_reducible refine gate_builtin (b := .append) (xs := #[.tmp 38, .tmp 41]) rfl ?_); at_builtin; refine Kd.R_append (Kd.int .i64) (w0 := w) w.heap.size rfl (.tmp 38) (.tmp 41) 22 3 (.int .i64 0) 8 rfl Try.underlying22 info3 rfl (by decide) (by omega) u7 Aj (wrap64 (a1 + 1)) [.int .i64 (wrap64 (a1 + 1))] (fun _ => True) (fun _ => False) rfl rfl ?aP (fun _ hk => hk.elim) ?aF ?aO ?aB ?aS ?aL ?_; (case aP => exact rfl); (case aB => exact Z1); (case aF => exact (fun _ _ => trivial)); (case aO => exact Z25); (case aS => exact (below_size Z1)); (case aL => have := LMc18.out; omega); intro Bh Dy ho hb hg hat; rw [← Ao.out] at ho; replace Aa := aM (blk_grown (g := Ag) (o := .cells #[.int .i64 Ab, .int .i64 Ad, .slice Ah Af.length Ai] 28 (0, 0)) Z14 hg (Kd.R_ne Ae.out Aa.out (by decide))); replace HB := aM (hb); have Ak := aM (ho); clear Ae; clear ho hb hg hat; obtain ⟨Bv, Bw, Bx⟩ := bz3 Aa; obtain ⟨Bz, B0, B2⟩ := fz3 Aa))
         repeat (go_quiet (first | ((with_reducible refine gate_builtin (b := .append) (xs := #[.tmp 38, .tmp 41]) rfl ?_); at_builtin; refine Kd.R_append (Kd.int .i64) (w0 := w) w.heap.size rfl (.tmp 38) (.tmp 41) 22 3 (.int .i64 0) 8 rfl Try.underlying22 info3 rfl (by decide) (by omega) u7 Aj (wrap64 (a1 + 1)) [.int .i64 (wrap64 (a1 + 1))] (fun _ => True) (fun _ => False) rfl rfl ?aP (fun _ hk => hk.elim) ?aF ?aO ?aB ?aS ?aL ?_; (case aP => exact rfl); (case aB => exact Z1); (case aF => exact (fun _ _ => trivial)); (case aO => exact Z25); (case aS => exact (below_size Z1)); (case aL => have := LMc18.out; omega); intro Bh Dy ho hb hg hat; rw [← Ao.out] at ho; replace Aa := aM (blk_grown (g := Ag) (o := .cells #[.int .i64 Ab, .int .i64 Ad, .slice Ah Af.length Ai] 28 (0, 0)) Z14 hg (Kd.R_ne Ae.out Aa.out (by decide))); replace HB := aM (hb); have Ak := aM (ho); clear Ae; clear ho hb hg hat; obtain ⟨Bv, Bw, Bx⟩ := bz3 Aa; obtain ⟨Bz, B0, B2⟩ := fz3 Aa)); try go_wp2_with (first | ((with_reducible refine gate_builtin (b := .append) (xs := #[.tmp 38, .tmp 41]) rfl ?_); at_builtin; refine Kd.R_append (Kd.int .i64) (w0 := w) w.heap.size rfl (.tmp 38) (.tmp 41) 22 3 (.int .i64 0) 8 rfl Try.underlying22 info3 rfl (by decide) (by omega) u7 Aj (wrap64 (a1 + 1)) [.int .i64 (wrap64 (a1 + 1))] (fun _ => True) (fun _ => False) rfl rfl ?aP (fun _ hk => hk.elim) ?aF ?aO ?aB ?aS ?aL ?_; (case aP => exact rfl); (case aB => exact Z1); (case aF => exact (fun _ _ => trivial)); (case aO => exact Z25); (case aS => exact (below_size Z1)); (case aL => have := LMc18.out; omega); intro Bh Dy ho hb hg hat; rw [← Ao.out] at ho; replace Aa := aM (blk_grown (g := Ag) (o := .cells #[.int .i64 Ab, .int .i64 Ad, .slice Ah Af.length Ai] 28 (0, 0)) Z14 hg (Kd.R_ne Ae.out Aa.out (by decide))); replace HB := aM (hb); have Ak := aM (ho); clear Ae; clear ho hb hg hat; obtain ⟨Bv, Bw, Bx⟩ := bz3 Aa; obtain ⟨Bz, B0, B2⟩ := fz3 Aa)))
         go_ret
         exact ⟨_, Z6, Z58, Z1⟩
       ·rw [if_neg Cv] at H
        exact absurd H (by simp)
      ·rw [if_neg Cl] at H
       have c17b0 : decide ((Int.tmod a1 Ab) < (wrap64 (Ab - 1))) = false := decide_eq_false Cl; clear Cl
       by_cases Cn : (wrap64 (Int.tdiv a1 Ab)) < (wrap64 (Ad - 1))
       ·rw [if_pos Cn] at H
        have c28b0 : decide ((wrap64 (Int.tdiv a1 Ab)) < (wrap64 (Ad - 1))) = true := decide_eq_true Cn; clear Cn
        by_cases Da : Aj.length < 17592186044416
        ·rw [if_pos Da] at H
         have LMc29 := Aside0.mk Da; clear Da; obtain ⟨Dq, Bi⟩ : ∃ y_ : List Int, y_ = (Aj ++ [wrap64 (a1 + Ab)]) := ⟨_, rfl⟩
         replace H : (some Dq) = some r := by first | (rw [Bi]; with_reducible exact H) | (have H2_ := (Option.bind_some _ _).symm.trans H; rw [Bi]; with_reducible exact H2_) | (have H2_ := (Option.bind_some _ _).symm.trans H; with_reducible exact H2_) | with_reducible exact H | (rw [Bi]; exact H) | exact H
         have Cd := Aside0.mk Bi; clear Bi; obtain rfl := Option.some.inj H; obtain ⟨Db, Dc, Dd⟩ := bz3 Aa; obtain ⟨De, Df, Dg⟩ := fz3 Aa
         go_wp2_with (first | ((with_reducible refine gate_builtin (b := .append) (xs := #[.tmp 48, .tmp 53]) rfl ?_); at_builtin; refine Kd.R_append (Kd.int .i64) (w0 := w) w.heap.size rfl (.tmp 48) (.tmp 53) 22 3 (.int .i64 0) 8 rfl Try.underlying22 info3 rfl (by decide) (by omega) u7 Aj (wrap64 (a1 + Ab)) [.int .i64 (wrap64 (a1 + Ab))] (fun _ => True) (fun _ => False) rfl rfl ?aP (fun _ hk => hk.elim) ?aF ?aO ?aB ?aS ?aL ?_; (case aP => exact rfl); (case aB => exact Z1); (case aF => exact (fun _ _ => trivial)); (case aO => exact Z25); (case aS => exact (below_size Z1)); (case aL => have := LMc29.out; omega); intro Cu Dz ho hb hg hat; rw [← Cd.out] at ho; replace Aa := aM (blk_grown (g := Ag) (o := .cells #[.int .i64 Ab, .int .i64 Ad, .slice Ah Af.length Ai] 28 (0, 0)) Z14 hg (Kd.R_ne Ae.out Aa.out (by decide))); replace HB := aM (hb); have Ce := aM (ho); clear Ae; clear ho hb hg hat))
         repeat (go_quiet (first | ((with_reducible refine gate_builtin (b := .append) (xs := #[.tmp 48, .tmp 53]) rfl ?_); at_builtin; refine Kd.R_append (Kd.int .i64) (w0 := w) w.heap.size rfl (.tmp 48) (.tmp 53) 22 3 (.int .i64 0) 8 rfl Try.underlying22 info3 rfl (by decide) (by omega) u7 Aj (wrap64 (a1 + Ab)) [.int .i64 (wrap64 (a1 + Ab))] (fun _ => True) (fun _ => False) rfl rfl ?aP (fun _ hk => hk.elim) ?aF ?aO ?aB ?aS ?aL ?_; (case aP => exact rfl); (case aB => exact Z1); (case aF => exact (fun _ _ => trivial)); (case aO => exact Z25); (case aS => exact (below_size Z1)); (case aL => have := LMc29.out; omega); intro Cu Dz ho hb hg hat; rw [← Cd.out] at ho; replace Aa := aM (blk_grown (g := Ag) (o := .cells #[.int .i64 Ab, .int .i64 Ad, .slice Ah Af.length Ai] 28 (0, 0)) Z14 hg (Kd.R_ne Ae.out Aa.out (by decide))); replace HB := aM (hb); have Ce := aM (ho); clear Ae; clear ho hb hg hat)); try go_wp2_with (first | ((with_reducible refine gate_builtin (b := .append) (xs := #[.tmp 48, .tmp 53]) rfl ?_); at_builtin; refine Kd.R_append (Kd.int .i64) (w0 := w) w.heap.size rfl (.tmp 48) (.tmp 53) 22 3 (.int .i64 0) 8 rfl Try.underlying22 info3 rfl (by decide) (by omega) u7 Aj (wrap64 (a1 + Ab)) [.int .i64 (wrap64 (a1 + Ab))] (fun _ => True) (fun _ => False) rfl rfl ?aP (fun _ hk => hk.elim) ?aF ?aO ?aB ?aS ?aL ?_; (case aP => exact rfl); (case aB => exact Z1); (case aF => exact (fun _ _ => trivial)); (case aO => exact Z25); (case aS => exact (below_size Z1)); (case aL => have := LMc29.out; omega); intro Cu Dz ho hb hg hat; rw [← Cd.out] at ho; replace Aa := aM (blk_grown (g := Ag) (o := .cells #[.int .i64 Ab, .int .i64 Ad, .slice Ah Af.length Ai] 28 (0, 0)) Z14 hg (Kd.R_ne Ae.out Aa.out (by decide))); replace HB := aM (hb); have Ce := aM (ho); clear Ae; clear ho hb hg hat)))
         go_ret
         exact ⟨_, Z6, by (with_reducible repeat (first | apply Kd.R_alloc | apply Kd.R_drewN | apply Kd.R_drew)); exact Ce.out, Z1⟩
        ·rw [if_neg Da] at H
         exact absurd H (by simp)
       ·rw [if_neg Cn] at H
        have c28b0 : decide ((wrap64 (Int.tdiv a1 Ab)) < (wrap64 (Ad - 1))) = false := decide_eq_false Cn; clear Cn; obtain rfl := Option.some.inj H; obtain ⟨Dh, Di, Dj⟩ := bz3 Aa; obtain ⟨Dk, Dl, Dm⟩ := fz3 Aa
        go_wp2
        repeat (go_quiet (fail); try go_wp2)
        go_ret
        exact ⟨_, Z6, Z25, Z1⟩
end Go.Proofs.Ytaadbpibmlnncaa.H
