-- by wip/pack.py of this repo
import Derived.Test.YtcjalfgnnabghaaZ01Hx0
import Derived.Test.YtcjalfgnnabghaaZ01WLast
import Derived.Test.YtcjalfgnnabghaaZ01WMore
import Derived.Test.YtcjalfgnnabghaaZ01WWords
import Derived.Test.YtcjalfgnnabghaaZ01Short
namespace Go.Proofs.Ytcjalfgnnabghaa.H
open Go.RowKit Go.Proofs.YtcjalfgnnabghaaW.PrintWords Go.Proofs.YtcjalfgnnabghaaW.PrintLast Go.Proofs.YtcjalfgnnabghaaW.PrintMore
attribute [local go_sem] max2_int min2_int max_two min_two max_three min_three max_four min_four
set_option maxHeartbeats 8000000
set_option maxRecDepth 100000
set_option linter.unusedVariables false
set_option linter.unusedSimpArgs false
def laws_szIntS.f (l0 : List Int) (a1 : Int) : Option (Int) := if (wrap64 (a1 - (l0.length : Int))) < 0 then (some (-1)) else (some (wrap64 (a1 - (l0.length : Int))))
theorem laws_szIntS.calls (A0 : Option Addr) (c0 : Nat) (l0 : List Int) (a1 : Int) (r : Int) (w : World) (Ac : Kd.C (Kd.int .i64) w A0 l0.length l0) (Ad : l0.length ≤ c0) (h : laws_szIntS.f l0 a1 = some r) :
  Calls Try.prog 51 #[.slice A0 l0.length c0, .int .i64 a1] w fun e w' => e = .returned (.int .i64 r) ∧ Drawn0 w w' := by
 have Ag := Aside0.mk Ac; have Ah := Aside0.mk Ad; clear Ac Ad; have H : (if (wrap64 (a1 - (l0.length : Int))) < 0 then (some (-1)) else (some (wrap64 (a1 - (l0.length : Int))))) = some r := h; clear h
 by_cases c3 : (wrap64 (a1 - (l0.length : Int))) < 0
 ·rw [if_pos c3] at H
  have c3b0 : decide ((wrap64 (a1 - (l0.length : Int))) < 0) = true := decide_eq_true c3; clear c3; obtain rfl := Option.some.inj H
  go_enter Try.func51, Try.ntmps51
  go_wp2
  go_ret
  exact ⟨Z25, Z44⟩
 ·rw [if_neg c3] at H
  have c3b0 : decide ((wrap64 (a1 - (l0.length : Int))) < 0) = false := decide_eq_false c3; clear c3; obtain rfl := Option.some.inj H
  go_enter Try.func51, Try.ntmps51
  go_wp2
  go_ret
  exact ⟨Z25, Z44⟩
def laws_szChart.f (Ae : Int) (Af : Int) (Ab : List Int) (a1 : Int) : Option (Int) := (laws_szIntS.f Ab a1).bind fun Aa => (if Aa < 0 then (some (-1)) else (some Aa))
theorem laws_szChart.calls (Ag : Int) (Ah : Int) (Ad : Option Addr) (Ae : Nat) (Aa : List Int) (a1 : Int) (r : Int) (w : World) (Ai : Kd.C (Kd.int .i64) w Ad Aa.length Aa) (Aj : Aa.length ≤ Ae) (h : laws_szChart.f Ag Ah Aa a1 = some r) :
  Calls Try.prog 13 #[.agg #[.int .i64 Ag, .int .i64 Ah, .slice Ad Aa.length Ae], .int .i64 a1] w fun e w' => e = .returned (.int .i64 r) ∧ Below w.heap.size w w' := by
 have hu24 := Try.underlying24; have Ak := Aside0.mk Ai; have Al := Aside0.mk Aj; clear Ai Aj; have HB := aM (Below.refl w.heap.size w); have H : ((laws_szIntS.f Aa a1).bind fun Ab => (if Ab < 0 then (some (-1)) else (some Ab))) = some r := h; clear h; replace H := Option.bind_eq_some_iff.mp H; obtain ⟨Ab, Bb, H⟩ := H; replace H : (if Ab < 0 then (some (-1)) else (some Ab)) = some r := H; have A3 := Aside0.mk Bb; clear Bb
 by_cases c4 : Ab < 0
 ·rw [if_pos c4] at H
  have c4b0 : decide (Ab < 0) = true := decide_eq_true c4; clear c4; obtain rfl := Option.some.inj H
  go_enter Try.func13, Try.ntmps13
  go_wp2_with (first | ((with_reducible refine gate_dst (N := 2) rfl ?_); refine bxE 2 #[.int .i64 Ag, .int .i64 Ah, .slice Ad Aa.length Ae] 24 ?_; intro Am hg w5 hbox hb; have Ac := aM (hbox); have An := gwS hg Z1; have Af := gwS hg Z1; replace HB := hbS Z1 hb; clear hb hbox hg; obtain ⟨Ap, Aq, Ar⟩ := bz3 Ac; obtain ⟨Au, Av, Aw⟩ := fz3 Ac) | ((with_reducible refine gate_callee (f := 51) rfl ?_); refine glE (some 8) Try.func51 #[.slice Ad Aa.length Ae, .int .i64 a1] ?_; (with_reducible refine (laws_szIntS.calls _ _ Aa a1 Ab _ ?side1 ?side2 A3.out).mono ?_); (case side1 => exact Z67); (case side2 => exact Al.out); rintro e w' ⟨rfl, ⟨nd, rfl⟩⟩; refine ⟨_, rfl, ?_⟩))
  go_ret
  exact ⟨Z12, Z72⟩
 ·rw [if_neg c4] at H
  have c4b0 : decide (Ab < 0) = false := decide_eq_false c4; clear c4; obtain rfl := Option.some.inj H
  go_enter Try.func13, Try.ntmps13
  go_wp2_with (first | ((with_reducible refine gate_dst (N := 2) rfl ?_); refine bxE 2 #[.int .i64 Ag, .int .i64 Ah, .slice Ad Aa.length Ae] 24 ?_; intro Am hg w7 hbox hb; have Ac := aM (hbox); have An := gwS hg Z1; have Af := gwS hg Z1; replace HB := hbS Z1 hb; clear hb hbox hg; obtain ⟨Ax, Ay, Az⟩ := bz3 Ac; obtain ⟨A6, A8, Ba⟩ := fz3 Ac) | ((with_reducible refine gate_callee (f := 51) rfl ?_); refine glE (some 8) Try.func51 #[.slice Ad Aa.length Ae, .int .i64 a1] ?_; (with_reducible refine (laws_szIntS.calls _ _ Aa a1 Ab _ ?side1 ?side2 A3.out).mono ?_); (case side1 => exact Z67); (case side2 => exact Al.out); rintro e w' ⟨rfl, ⟨nd, rfl⟩⟩; refine ⟨_, rfl, ?_⟩))
  go_ret
  exact ⟨Z12, Z72⟩
def laws_toIntS.l0 : Nat → List Int → List Int → Int → Option (List Int)
 | 0, _, _, _ => none
 | k + 1, x0, x3, x4 => if x4 < (x0.length : Int) then (if 0 ≤ x4 then (if x4 < (x3.length : Int) then (laws_toIntS.l0 k x0 (x3.set (x4 : Int).toNat (rd x0 x4)) (wrap64 (x4 + 1))) else (none)) else (none)) else (some x3)
def laws_toIntS.f (k : Nat) (l0 : List Int) : Option (List Int) := if 0 ≤ (l0.length : Int) then (if ((l0.length : Int) : Int).toNat ≤ 35184372088832 then (laws_toIntS.l0 k l0 (List.replicate ((l0.length : Int) : Int).toNat 0) 0) else (none)) else (none)
theorem laws_toIntS.calls (k : Nat) (A0 : Option Addr) (c0 : Nat) (l0 : List Int) (r : List Int) (w : World) (Az : Kd.C (Kd.int .i64) w A0 l0.length l0) (A6 : l0.length ≤ c0) (h : laws_toIntS.f k l0 = some r) :
  Calls Try.prog 54 #[.slice A0 l0.length c0] w fun e w' => ∃ v0_ : Value, e = .returned (v0_) ∧ Kd.R (Kd.int .i64) 3 w' w.heap.size (fun _ => True) v0_ r ∧ Below w.heap.size w w' := by
 have Bd := Aside0.mk Az; have Bh := Aside0.mk A6; clear Az A6; have HB := aM (Below.refl w.heap.size w); have H : (if 0 ≤ (l0.length : Int) then (if ((l0.length : Int) : Int).toNat ≤ 35184372088832 then (laws_toIntS.l0 k l0 (List.replicate ((l0.length : Int) : Int).toNat 0) 0) else (none)) else (none)) = some r := h; clear h
 by_cases c2 : 0 ≤ (l0.length : Int)
 ·rw [if_pos c2] at H
  have c2b0 := eq_true c2; have c2b1 : decide (0 ≤ (l0.length : Int)) = true := decide_eq_true c2; clear c2
  by_cases c3 : ((l0.length : Int) : Int).toNat ≤ 35184372088832
  ·rw [if_pos c3] at H
   have c3b0 := eq_true c3; have c3b1 : decide (((l0.length : Int) : Int).toNat ≤ 35184372088832) = true := decide_eq_true c3; clear c3; obtain ⟨Al, Ac⟩ : ∃ y_ : List Int, y_ = (List.replicate ((l0.length : Int) : Int).toNat 0) := ⟨_, rfl⟩
   replace H : (laws_toIntS.l0 k l0 Al 0) = some r := by first | (rw [Ac]; with_reducible exact H) | (have H2_ := (Option.bind_some _ _).symm.trans H; rw [Ac]; with_reducible exact H2_) | (have H2_ := (Option.bind_some _ _).symm.trans H; with_reducible exact H2_) | with_reducible exact H | (rw [Ac]; exact H) | exact H
   have Ag := Aside0.mk Ac; clear Ac; have H' := Aside0.mk H; clear H
   go_enter Try.func54, Try.ntmps54
   go_wp2_with (first | ((with_reducible refine gate_dst (N := 7) rfl ?_); refine Kd.R_make (Kd.int .i64) _ 3 rfl (N := 7) rfl 22 _ _ rfl (l0.length : Int) rfl rfl Try.underlying22 (.int .i64 0) 8 info3 rfl (by decide) (by omega) 0 (ok := fun _ => True) (okp := fun _ => True) rfl (fun _ hk => hk) trivial (of_decide_eq_true Z31) (Nat.le_trans (Nat.mul_le_mul_right _ (of_decide_eq_true Z31 : (l0.length : Int).toNat ≤ 35184372088832)) (by omega)) (Below.refl _ _) (Nat.le_refl _) ?_; intro Aq w4 Am hb hg_ hnew_; clear hg_ hnew_; (first | rw [← Ag.out] at Am | (simp only [Int.reduceToNat] at Am; rw [← Ag.out] at Am)); have An := aM (Kd.R_lower Am (below_size Z1)); replace HB := hbS Z1 hb; clear hb Am))
   go_loopg [4] k (fun kq v4 w' => ∃ (Ad : List Int) (Aa : Int), v4 = .int .i64 Aa ∧ Aside0 (laws_toIntS.l0 kq l0 Ad Aa = some r) ∧ Aside0 (kq ≤ k) ∧ Aside0 (Kd.R (Kd.int .i64) 3 w' w.heap.size (fun _ => True) Aq Ad) ∧ Aside0 (Below w.heap.size w w'))
   case atStart => exact ⟨(Al), (0), Z25, H', ⟨Nat.le_refl _⟩, ⟨by (with_reducible repeat (first | apply Kd.R_alloc | apply Kd.R_drewN | apply Kd.R_drew)); exact An.out⟩, ⟨Z1⟩⟩
   case round =>
    clear H'; (try clear c2); (try clear c2b0); (try clear c2b1); (try clear p2); (try clear c3); (try clear c3b0); (try clear c3b1); (try clear c5); obtain ⟨Ad, Aa, rfl, HA, HK1, Af, HB⟩ := hrel; cases gk with
    | zero => exact absurd HA.out (by simp [laws_toIntS.l0])
    | succ k1 =>
     have H := HA.out; clear HA
     simp only [laws_toIntS.l0] at H
     by_cases c6 : Aa < (l0.length : Int)
     ·rw [if_pos c6] at H
      have c6b0 : decide (Aa < (l0.length : Int)) = true := decide_eq_true c6; clear c6
      by_cases c7 : 0 ≤ Aa
      ·rw [if_pos c7] at H
       have c7b0 : decide (0 ≤ Aa) = true := decide_eq_true c7; clear c7
       by_cases c8 : Aa < (Ad.length : Int)
       ·rw [if_pos c8] at H
        have c8b0 : decide (Aa < (Ad.length : Int)) = true := decide_eq_true c8; clear c8; obtain ⟨Ah, Ae⟩ : ∃ y_ : List Int, y_ = (Ad.set (Aa : Int).toNat (rd l0 Aa)) := ⟨_, rfl⟩
        replace H : (laws_toIntS.l0 k1 l0 Ah (wrap64 (Aa + 1))) = some r := by first | (rw [Ae]; with_reducible exact H) | (have H2_ := (Option.bind_some _ _).symm.trans H; rw [Ae]; with_reducible exact H2_) | (have H2_ := (Option.bind_some _ _).symm.trans H; with_reducible exact H2_) | with_reducible exact H | (rw [Ae]; exact H) | exact H
        have Ap := Aside0.mk Ae; clear Ae; have H' := Aside0.mk H; clear H; have Ai : 0 ≤ (Aa : Int) := of_decide_eq_true Z31; have Aj : Aa < (l0.length : Int) := of_decide_eq_true Z31; obtain ⟨ad143, e143, Ab⟩ := Kd.at_int Bd.out Aa Ai Aj; cases e143; replace Ab := (HB.out.cell (World.block_lt_of_cell? w _ Ab)).trans Ab; replace Ai := eq_true Ai; replace Aj := eq_true Aj; have p9 : 0 ≤ (Aa : Int) := of_decide_eq_true Z31; have q9 : (Aa : Int) < ((Ad.length : Int) : Int) := of_decide_eq_true Z31; obtain ⟨Ar, Bf, A8, Ba, gl9, cl9, HG9⟩ := Kd.R_form Af.out (by omega)
        (first | cases A8 | (injection A8 with ea_ en_ ec_; (first | subst ea_ | (injection ea_ with ea_; subst ea_)); subst ec_; clear en_))
        have Bg := Aside0.mk Ba; have Bi := Aside0.mk HG9; clear Ba gl9 HG9; obtain ⟨Bb, Bc⟩ := Kd.R_celln 0 Af.out (Aa : Int) p9 q9; replace p9 := eq_true p9; replace q9 := eq_true q9; have Ak := Kd.R_putg Af.out (Aa : Int) (rd l0 Aa)
        go_wp2_with (first | ((with_reducible refine gate_store (t := 3) (p := 20) rfl ?_); refine store_event (t := 3) (p := 20) (v := ?vo_w11) (w1 := (wr.setCell ⟨Ar, (Aa : Int).toNat, none⟩ (.int .i64 (rd l0 Aa)))) ?hg ?ho ?hn ?hr ?_; (case ho => rfl); (case hg => rfl); (case hn => rfl); (case hr => first | (go_simp; done) | (go_simp; rfl)); intro Au hw; have hg : wr.grownBy Au (some Ar) := (by rw [hw]; exact Ak.2); have hp_ : Kd.R (Kd.int .i64) 3 Au w.heap.size (fun _ => True) (.slice (some ⟨Ar, 0, none⟩) Ad.length Bf) Ah := (by rw [hw, Ap.out]; exact Ak.1); clear Ak; replace Af := aM (hp_); replace HB := aM ((by rw [hw]; exact below_set (HB.out) Bg.out : Below w.heap.size w Au)); clear hg hw hp_))
        go_roundg k1
        case measure => have := HK1.out; omega
        case rel => exact ⟨(Ah), (wrap64 (Aa + 1)), Z25, H', ⟨Z214⟩, ⟨Z13⟩, ⟨Z1⟩⟩
       ·rw [if_neg c8] at H
        exact absurd H (by simp)
      ·rw [if_neg c7] at H
       exact absurd H (by simp)
     ·rw [if_neg c6] at H
      have c6b0 : decide (Aa < (l0.length : Int)) = false := decide_eq_false c6; clear c6; obtain rfl := Option.some.inj H
      go_wp2
      go_ret
      exact ⟨_, Z12, Z13, Z1⟩
  ·rw [if_neg c3] at H
   exact absurd H (by simp)
 ·rw [if_neg c2] at H
  exact absurd H (by simp)
def laws_toChart.f (k : Nat) (Av : Int) (Aw : Int) (Ax : List Int) : Option (Int × Int × List Int) := (laws_toIntS.f k Ax).bind fun Ay => (some (Av, Aw, Ay))
theorem laws_toChart.calls (k : Nat) (Af : Int) (Ai : Int) (Au : Option Addr) (Av : Nat) (Aj : List Int) (r1 : Int) (r2 : Int) (r3 : List Int) (w : World) (Aw : Kd.C (Kd.int .i64) w Au Aj.length Aj) (Ax : Aj.length ≤ Av) (h : laws_toChart.f k Af Ai Aj = some (r1, r2, r3)) :
  Calls Try.prog 15 #[.agg #[.int .i64 Af, .int .i64 Ai, .slice Au Aj.length Av]] w fun e w' => ∃ v2_ : Value, e = .returned (.agg #[.int .i64 r1, .int .i64 r2, v2_]) ∧ Kd.R (Kd.int .i64) 3 w' w.heap.size (fun _ => True) v2_ r3 ∧ Below w.heap.size w w' := by
 have hu24 := Try.underlying24; have hu28 := Try.underlying28; have Ba := Aside0.mk Aw; have Bb := Aside0.mk Ax; clear Aw Ax; have HB := aM (Below.refl w.heap.size w); have H : ((laws_toIntS.f k Aj).bind fun Al => (some (Af, Ai, Al))) = some (r1, r2, r3) := h; clear h; replace H := Option.bind_eq_some_iff.mp H; obtain ⟨Al, B5, H⟩ := H; replace H : (some (Af, Ai, Al)) = some (r1, r2, r3) := H; have A2 := Aside0.mk B5; clear B5
 simp only [Option.some.injEq, Prod.mk.injEq] at H
 obtain ⟨rfl, rfl, rfl⟩ := H
 go_enter Try.func15, Try.ntmps15
 go_wp2_with (first | ((with_reducible refine gate_dst (N := 1) rfl ?_); refine bxE 1 #[.int .i64 Af, .int .i64 Ai, .slice Au Aj.length Av] 24 ?_; intro Bc hg w3 hbox hb; have Aa := aM (hbox); have B6 := gwS hg Z1; have Ac := gwS hg Z1; replace HB := hbS Z1 hb; clear hb hbox hg) | ((with_reducible refine gate_dst (N := 2) rfl ?_); refine bxE 2 #[.int .i64 0, .int .i64 0, .slice none 0 0] 28 ?_; intro Ak hg w4 hbox hb; have Ad := aM (hbox); have B9 := gwS hg Z23; have Ag := gwS hg Z23; replace HB := hbS Z23 hb; have An := nbL hg Aa; have Ap := nbG hg Aa; replace Aa := bkB Aa hb; clear hb hbox hg) | ((with_reducible refine gate_dst (N := 3) rfl ?_); refine bxE 3 #[.int .i64 0, .int .i64 0, .slice none 0 0] 28 ?_; intro Ay hg w5 hbox hb; have Ah := aM (hbox); have Ca := gwS hg Z79; have Am := gwS hg Z79; replace HB := hbS Z79 hb; have Ae := nbL hg Aa; have Aq := nbG hg Aa; replace Aa := bkB Aa hb; have Ab := nbL hg Ad; have Ar := nbG hg Ad; replace Ad := bkB Ad hb; clear hb hbox hg; have Cc := An.out; have Cd := Ap.out; have Ce := Ae.out; have Cf := Aq.out; obtain ⟨Bw, Bx, Bz⟩ := bz3 Aa; obtain ⟨B0, B2, B3⟩ := fz3 Aa; have Cg := Ar.out; have Ch := Ab.out; obtain ⟨Bd, Bf, Bg⟩ := bz3 Ah; obtain ⟨Bh, Bi, Bj⟩ := fz3 Ah) | ((with_reducible refine gate_callee (f := 54) rfl ?_); refine glE (some 12) Try.func54 #[.slice Au Aj.length Av] ?_; (with_reducible refine (laws_toIntS.calls k _ _ Aj Al _ ?side1 ?side2 A2.out).mono ?_); (case side1 => exact Kd.C_below Ba.out Z63); (case side2 => exact Bb.out); rintro e Cj ⟨Ci, rfl, Cb, hb⟩; refine ⟨_, rfl, ?_⟩; have Az := aM (Kd.R_lower Cb (below_size Z63)); replace Aa := aM (blk_below (g := Bc) (o := .cells #[.int .i64 Af, .int .i64 Ai, .slice Au Aj.length Av] 24 (0, 0)) (by (with_reducible repeat (first | refine blk_drewN ?_ _ | refine blk_drew ?_ | refine blk_alloc ?_ _)); refine blk_far ?_ Ae.out _; (with_reducible repeat (first | refine blk_drewN ?_ _ | refine blk_drew ?_ | refine blk_alloc ?_ _)); refine blk_far ?_ Ae.out _; (with_reducible repeat (first | refine blk_drewN ?_ _ | refine blk_drew ?_ | refine blk_alloc ?_ _)); exact Aa.out) hb); replace Ad := aM (blk_below (g := Ak) (o := .cells #[.int .i64 0, .int .i64 0, .slice none 0 0] 28 (0, 0)) (by (with_reducible repeat (first | refine blk_drewN ?_ _ | refine blk_drew ?_ | refine blk_alloc ?_ _)); refine blk_far ?_ Ab.out _; (with_reducible repeat (first | refine blk_drewN ?_ _ | refine blk_drew ?_ | refine blk_alloc ?_ _)); refine blk_far ?_ Ab.out _; (with_reducible repeat (first | refine blk_drewN ?_ _ | refine blk_drew ?_ | refine blk_alloc ?_ _)); exact Ad.out) hb); replace Ah := aM (blk_below (g := Ay) (o := .cells #[.int .i64 Af, .int .i64 Ai, .slice none 0 0] 28 (0, 0)) (by (with_reducible repeat (first | refine blk_drewN ?_ _ | refine blk_drew ?_ | refine blk_alloc ?_ _)); refine blk_put (cs := #[.int .i64 Af, .int .i64 0, .slice none 0 0]) ?_ 1 _ rfl; (with_reducible repeat (first | refine blk_drewN ?_ _ | refine blk_drew ?_ | refine blk_alloc ?_ _)); refine blk_put (cs := #[.int .i64 0, .int .i64 0, .slice none 0 0]) ?_ 0 _ rfl; (with_reducible repeat (first | refine blk_drewN ?_ _ | refine blk_drew ?_ | refine blk_alloc ?_ _)); exact Ah.out) hb); replace HB := hbS Z63 hb; (try clear hb); (try clear Cb); obtain ⟨A6, A8, B4⟩ := Kd.R_slice Az.out; subst B4; obtain ⟨Bk, Bl, Bm⟩ := bz3 Ah; obtain ⟨Bn, Bo, Bp⟩ := fz3 Ah; obtain ⟨Bq, Br, Bs⟩ := bz3 Ad; obtain ⟨Bt, Bu, Bv⟩ := fz3 Ad))
 refine bodyPost_ret (results_cell_row rfl _ _ Ak 28 #[.int .i64 Af, .int .i64 Ai, .slice A6 Al.length A8] (0, 0) _ rfl (by (with_reducible repeat (first | refine blk_drewN ?_ _ | refine blk_drew ?_ | refine blk_alloc ?_ _)); refine blk_put (cs := #[.int .i64 Af, .int .i64 Ai, .slice none 0 0]) ?_ 2 _ rfl; (with_reducible repeat (first | refine blk_drewN ?_ _ | refine blk_drew ?_ | refine blk_alloc ?_ _)); refine blk_put (cs := #[.int .i64 Af, .int .i64 0, .slice none 0 0]) ?_ 1 _ rfl; (with_reducible repeat (first | refine blk_drewN ?_ _ | refine blk_drew ?_ | refine blk_alloc ?_ _)); refine blk_put (cs := #[.int .i64 0, .int .i64 0, .slice none 0 0]) ?_ 0 _ rfl; (with_reducible repeat (first | refine blk_drewN ?_ _ | refine blk_drew ?_ | refine blk_alloc ?_ _)); refine blk_far ?_ Ab.out _; (with_reducible repeat (first | refine blk_drewN ?_ _ | refine blk_drew ?_ | refine blk_alloc ?_ _)); exact Ad.out) Try.underlying28 rfl Z46) rfl ?_
 exact ⟨_, Z12, by (with_reducible repeat (first | apply Kd.R_alloc | apply Kd.R_drewN | apply Kd.R_drew)); exact Kd.R_mono (Kd.R_far (p := ⟨Ak, 2, none⟩) (Kd.R_far (p := ⟨Ak, 1, none⟩) (Kd.R_far (p := ⟨Ak, 0, none⟩) (Kd.R_far (p := ⟨Ay, 2, none⟩) (Kd.R_types (Kd.R_types Az.out Ah.out (by decide)) Ad.out (by decide)) (fun _ hk => hk.1.2) (.slice A6 Al.length A8)) (fun _ hk => hk.2) (.int .i64 Af)) (fun _ hk => hk.2) (.int .i64 Ai)) (fun _ hk => hk.2) (.slice A6 Al.length A8)) (fun _ hk => trivial), Z63⟩
def laws_eqIntS.l0 : Nat → List Int → List Int → Int → Option (Bool)
 | 0, _, _, _ => none
 | k + 1, x0, x1, x5 => if x5 < (x0.length : Int) then (if 0 ≤ x5 then (if x5 < (x1.length : Int) then (if (rd x0 x5) = (rd x1 x5) then (laws_eqIntS.l0 k x0 x1 (wrap64 (x5 + 1))) else (some false)) else (none)) else (none)) else (some true)
def laws_eqIntS.f (k : Nat) (l0 : List Int) (l1 : List Int) : Option (Bool) := if (l0.length : Int) = (l1.length : Int) then (laws_eqIntS.l0 k l0 l1 0) else (some false)
theorem laws_eqIntS.calls (k : Nat) (A0 : Option Addr) (c0 : Nat) (l0 : List Int) (A1 : Option Addr) (c1 : Nat) (l1 : List Int) (r : Bool) (w : World) (Ap : Kd.C (Kd.int .i64) w A0 l0.length l0) (Aq : l0.length ≤ c0) (Ar : Kd.C (Kd.int .i64) w A1 l1.length l1) (Au : l1.length ≤ c1) (h : laws_eqIntS.f k l0 l1 = some r) :
  Calls Try.prog 26 #[.slice A0 l0.length c0, .slice A1 l1.length c1] w fun e w' => e = .returned (.bool r) ∧ Drawn0 w w' := by
 have Av := Aside0.mk Ap; have Ax := Aside0.mk Aq; clear Ap Aq; have Aw := Aside0.mk Ar; have Ay := Aside0.mk Au; clear Ar Au; have H : (if (l0.length : Int) = (l1.length : Int) then (laws_eqIntS.l0 k l0 l1 0) else (some false)) = some r := h; clear h
 by_cases c3 : (l0.length : Int) = (l1.length : Int)
 ·rw [if_pos c3] at H
  have c3b0 : ((l0.length : Int) == (l1.length : Int)) = true := beq_iff_eq.mpr c3; have c3b1 : ((l0.length : Int) != (l1.length : Int)) = false := bne_eq_false_iff_eq.mpr c3
  have c3b2 : (l0.length == l1.length) = true := by first | simpa using c3 | (simp at c3 ⊢; omega)
  clear c3; have H' := Aside0.mk H; clear H
  go_enter Try.func26, Try.ntmps26
  go_wp2
  repeat (go_quiet (fail); try go_wp2)
  go_loopg [5] k (fun kq v5 w' => ∃ (Aa : Int), v5 = .int .i64 Aa ∧ Aside0 (laws_eqIntS.l0 kq l0 l1 Aa = some r) ∧ Aside0 (kq ≤ k) ∧ Drawn0 w w')
  case atStart => exact ⟨(0), Z25, H', ⟨Nat.le_refl _⟩, Z44⟩
  case round =>
   clear H'; (try clear c1); (try clear c2); (try clear p2); (try clear c3); (try clear c3b0); (try clear c3b1); (try clear c3b2); obtain ⟨Aa, rfl, HA, HK1, ⟨m1, rfl⟩⟩ := hrel; cases gk with
   | zero => exact absurd HA.out (by simp [laws_eqIntS.l0])
   | succ k1 =>
    have H := HA.out; clear HA
    simp only [laws_eqIntS.l0] at H
    by_cases c4 : Aa < (l0.length : Int)
    ·rw [if_pos c4] at H
     have c4b0 : decide (Aa < (l0.length : Int)) = true := decide_eq_true c4; clear c4
     by_cases c5 : 0 ≤ Aa
     ·rw [if_pos c5] at H
      have c5b0 : decide (0 ≤ Aa) = true := decide_eq_true c5; clear c5
      by_cases c6 : Aa < (l1.length : Int)
      ·rw [if_pos c6] at H
       have c6b0 : decide (Aa < (l1.length : Int)) = true := decide_eq_true c6; clear c6
       by_cases c7 : (rd l0 Aa) = (rd l1 Aa)
       ·rw [if_pos c7] at H
        have c7b0 : ((rd l0 Aa) == (rd l1 Aa)) = true := beq_iff_eq.mpr c7; have c7b1 : ((rd l0 Aa) != (rd l1 Aa)) = false := bne_eq_false_iff_eq.mpr c7; clear c7; have H' := Aside0.mk H; clear H; have Ab : 0 ≤ (Aa : Int) := of_decide_eq_true Z31; have Ac : Aa < (l0.length : Int) := of_decide_eq_true Z31; obtain ⟨ad187, e187, Af⟩ := Kd.at_int Av.out Aa Ab Ac; cases e187; replace Ab := eq_true Ab; replace Ac := eq_true Ac; have Ad : 0 ≤ (Aa : Int) := of_decide_eq_true Z31; have Ae : Aa < (l1.length : Int) := of_decide_eq_true Z31; obtain ⟨ad188, e188, Ag⟩ := Kd.at_int Aw.out Aa Ad Ae; cases e188; replace Ad := eq_true Ad; replace Ae := eq_true Ae
        go_wp2
        repeat (go_quiet (fail); try go_wp2)
        go_roundg k1
        case measure => have := HK1.out; omega
        case rel => exact ⟨(wrap64 (Aa + 1)), Z25, H', ⟨Z214⟩, Z44⟩
       ·rw [if_neg c7] at H
        have c7b0 : ((rd l0 Aa) == (rd l1 Aa)) = false := beq_eq_false_iff_ne.mpr c7; have c7b1 : ((rd l0 Aa) != (rd l1 Aa)) = true := bne_iff_ne.mpr c7; obtain rfl := Option.some.inj H; have Ab : 0 ≤ (Aa : Int) := of_decide_eq_true Z31; have Ac : Aa < (l0.length : Int) := of_decide_eq_true Z31; obtain ⟨ad187, e187, Af⟩ := Kd.at_int Av.out Aa Ab Ac; cases e187; replace Ab := eq_true Ab; replace Ac := eq_true Ac; have Ad : 0 ≤ (Aa : Int) := of_decide_eq_true Z31; have Ae : Aa < (l1.length : Int) := of_decide_eq_true Z31; obtain ⟨ad188, e188, Ag⟩ := Kd.at_int Aw.out Aa Ad Ae; cases e188; replace Ad := eq_true Ad; replace Ae := eq_true Ae
        go_wp2
        repeat (go_quiet (fail); try go_wp2)
        go_ret
        exact ⟨Z25, Z44⟩
      ·rw [if_neg c6] at H
       exact absurd H (by simp)
     ·rw [if_neg c5] at H
      exact absurd H (by simp)
    ·rw [if_neg c4] at H
     have c4b0 : decide (Aa < (l0.length : Int)) = false := decide_eq_false c4; clear c4; obtain rfl := Option.some.inj H
     go_wp2
     repeat (go_quiet (fail); try go_wp2)
     go_ret
     exact ⟨Z25, Z44⟩
 ·rw [if_neg c3] at H
  have c3b0 : ((l0.length : Int) == (l1.length : Int)) = false := beq_eq_false_iff_ne.mpr c3; have c3b1 : ((l0.length : Int) != (l1.length : Int)) = true := bne_iff_ne.mpr c3
  have c3b2 : (l0.length == l1.length) = false := by first | simpa using c3 | (simp at c3 ⊢; omega)
  obtain rfl := Option.some.inj H
  go_enter Try.func26, Try.ntmps26
  go_wp2
  repeat (go_quiet (fail); try go_wp2)
  go_ret
  exact ⟨Z25, Z44⟩
def laws_eqChart.f (k : Nat) (Ah : Int) (Ai : Int) (Aj : List Int) (Ak : Int) (Al : Int) (Am : List Int) : Option (Bool) := if Ah = Ak then (if Ai = Al then ((laws_eqIntS.f k Aj Am).bind fun An => (if An = true then (some true) else (some false))) else (some false)) else (some false)
theorem laws_eqChart.calls (k : Nat) (Ah : Int) (Ai : Int) (Am : Option Addr) (An : Nat) (Af : List Int) (Aj : Int) (Ak : Int) (Ap : Option Addr) (Aq : Nat) (Ag : List Int) (r : Bool) (w : World) (Ay : Kd.C (Kd.int .i64) w Am Af.length Af) (Az : Af.length ≤ An) (A6 : Kd.C (Kd.int .i64) w Ap Ag.length Ag) (A8 : Ag.length ≤ Aq) (h : laws_eqChart.f k Ah Ai Af Aj Ak Ag = some r) :
  Calls Try.prog 17 #[.agg #[.int .i64 Ah, .int .i64 Ai, .slice Am Af.length An], .agg #[.int .i64 Aj, .int .i64 Ak, .slice Ap Ag.length Aq]] w fun e w' => e = .returned (.bool r) ∧ Below w.heap.size w w' := by
 have hu28 := Try.underlying28; have Ba := Aside0.mk Ay; have Bb := Aside0.mk Az; clear Ay Az; have Bc := Aside0.mk A6; have Bd := Aside0.mk A8; clear A6 A8; have HB := aM (Below.refl w.heap.size w); have H : (if Ah = Aj then (if Ai = Ak then ((laws_eqIntS.f k Af Ag).bind fun Ax => (if Ax = true then (some true) else (some false))) else (some false)) else (some false)) = some r := h; clear h
 by_cases c3 : Ah = Aj
 ·rw [if_pos c3] at H
  have c3b0 : (Ah == Aj) = true := beq_iff_eq.mpr c3; have c3b1 : (Ah != Aj) = false := bne_eq_false_iff_eq.mpr c3; clear c3
  by_cases c4 : Ai = Ak
  ·rw [if_pos c4] at H
   have c4b0 : (Ai == Ak) = true := beq_iff_eq.mpr c4; have c4b1 : (Ai != Ak) = false := bne_eq_false_iff_eq.mpr c4; clear c4; replace H := Option.bind_eq_some_iff.mp H; obtain ⟨Ax, Cv, H⟩ := H; replace H : (if Ax = true then (some true) else (some false)) = some r := H; have A5 := Aside0.mk Cv; clear Cv
   by_cases c6 : Ax = true
   ·subst c6
    have H1 : (some true) = some r := by rw [if_pos rfl] at H; exact H
    clear H; have H := H1; clear H1; obtain rfl := Option.some.inj H
    go_enter Try.func17, Try.ntmps17
    go_wp2_with (first | ((with_reducible refine gate_dst (N := 2) rfl ?_); refine bxE 2 #[.int .i64 Ah, .int .i64 Ai, .slice Am Af.length An] 28 ?_; intro Ar hg w7 hbox hb; have Aa := aM (hbox); have Au := gwS hg Z1; have Ab := gwS hg Z1; replace HB := hbS Z1 hb; clear hb hbox hg) | ((with_reducible refine gate_dst (N := 3) rfl ?_); refine bxE 3 #[.int .i64 Aj, .int .i64 Ak, .slice Ap Ag.length Aq] 28 ?_; intro Av hg w8 hbox hb; have Ae := aM (hbox); have Aw := gwS hg Z28; have Al := gwS hg Z28; replace HB := hbS Z28 hb; have Ac := nbL hg Aa; have Ad := nbG hg Aa; replace Aa := bkB Aa hb; clear hb hbox hg; have C2 := Ac.out; have C3 := Ad.out; obtain ⟨Bf, Bg, Bh⟩ := bz3 Aa; obtain ⟨Bi, Bj, Bk⟩ := fz3 Aa; obtain ⟨Bl, Bm, Bn⟩ := bz3 Ae; obtain ⟨Bo, Bp, Bq⟩ := fz3 Ae) | ((with_reducible refine gate_callee (f := 26) rfl ?_); refine glE (some 19) Try.func26 #[.slice Am Af.length An, .slice Ap Ag.length Aq] ?_; (with_reducible refine (laws_eqIntS.calls k _ _ Af _ _ Ag true _ ?side1 ?side2 ?side3 ?side4 A5.out).mono ?_); (case side1 => exact Z145); (case side2 => exact Bb.out); (case side3 => exact Z146); (case side4 => exact Bd.out); rintro e w' ⟨rfl, ⟨nd, rfl⟩⟩; refine ⟨_, rfl, ?_⟩))
    go_ret
    exact ⟨Z12, Z65⟩
   ·replace c6 := Bool.eq_false_iff.mpr c6
    subst c6
    have H1 : (some false) = some r := by rw [if_neg (show ¬ (false = true) by decide)] at H; exact H
    clear H; have H := H1; clear H1; obtain rfl := Option.some.inj H
    go_enter Try.func17, Try.ntmps17
    go_wp2_with (first | ((with_reducible refine gate_dst (N := 2) rfl ?_); refine bxE 2 #[.int .i64 Ah, .int .i64 Ai, .slice Am Af.length An] 28 ?_; intro Ar hg C4 hbox hb; have Aa := aM (hbox); have Au := gwS hg Z1; have Ab := gwS hg Z1; replace HB := hbS Z1 hb; clear hb hbox hg) | ((with_reducible refine gate_dst (N := 3) rfl ?_); refine bxE 3 #[.int .i64 Aj, .int .i64 Ak, .slice Ap Ag.length Aq] 28 ?_; intro Av hg C5 hbox hb; have Ae := aM (hbox); have Aw := gwS hg Z28; have Al := gwS hg Z28; replace HB := hbS Z28 hb; have Ac := nbL hg Aa; have Ad := nbG hg Aa; replace Aa := bkB Aa hb; clear hb hbox hg; have Cw := Ac.out; have Cx := Ad.out; obtain ⟨Br, Bs, Bt⟩ := bz3 Aa; obtain ⟨Bu, Bv, Bw⟩ := fz3 Aa; obtain ⟨Bx, Bz, B0⟩ := bz3 Ae; obtain ⟨B2, B3, B4⟩ := fz3 Ae) | ((with_reducible refine gate_callee (f := 26) rfl ?_); refine glE (some 19) Try.func26 #[.slice Am Af.length An, .slice Ap Ag.length Aq] ?_; (with_reducible refine (laws_eqIntS.calls k _ _ Af _ _ Ag false _ ?side1 ?side2 ?side3 ?side4 A5.out).mono ?_); (case side1 => exact Z145); (case side2 => exact Bb.out); (case side3 => exact Z146); (case side4 => exact Bd.out); rintro e w' ⟨rfl, ⟨nd, rfl⟩⟩; refine ⟨_, rfl, ?_⟩))
    go_ret
    exact ⟨Z12, Z65⟩
  ·rw [if_neg c4] at H
   have c4b0 : (Ai == Ak) = false := beq_eq_false_iff_ne.mpr c4; have c4b1 : (Ai != Ak) = true := bne_iff_ne.mpr c4; obtain rfl := Option.some.inj H
   go_enter Try.func17, Try.ntmps17
   go_wp2_with (first | ((with_reducible refine gate_dst (N := 2) rfl ?_); refine bxE 2 #[.int .i64 Ah, .int .i64 Ai, .slice Am Af.length An] 28 ?_; intro Ar hg C6 hbox hb; have Aa := aM (hbox); have Au := gwS hg Z1; have Ab := gwS hg Z1; replace HB := hbS Z1 hb; clear hb hbox hg) | ((with_reducible refine gate_dst (N := 3) rfl ?_); refine bxE 3 #[.int .i64 Aj, .int .i64 Ak, .slice Ap Ag.length Aq] 28 ?_; intro Av hg C7 hbox hb; have Ae := aM (hbox); have Aw := gwS hg Z28; have Al := gwS hg Z28; replace HB := hbS Z28 hb; have Ac := nbL hg Aa; have Ad := nbG hg Aa; replace Aa := bkB Aa hb; clear hb hbox hg; have Cy := Ac.out; have Cz := Ad.out; obtain ⟨B5, B6, B9⟩ := bz3 Aa; obtain ⟨Ca, Cb, Cc⟩ := fz3 Aa; obtain ⟨Cd, Ce, Cf⟩ := bz3 Ae; obtain ⟨Cg, Ch, Ci⟩ := fz3 Ae))
   go_ret
   exact ⟨Z12, Z65⟩
 ·rw [if_neg c3] at H
  have c3b0 : (Ah == Aj) = false := beq_eq_false_iff_ne.mpr c3; have c3b1 : (Ah != Aj) = true := bne_iff_ne.mpr c3; obtain rfl := Option.some.inj H
  go_enter Try.func17, Try.ntmps17
  go_wp2_with (first | ((with_reducible refine gate_dst (N := 2) rfl ?_); refine bxE 2 #[.int .i64 Ah, .int .i64 Ai, .slice Am Af.length An] 28 ?_; intro Ar hg C8 hbox hb; have Aa := aM (hbox); have Au := gwS hg Z1; have Ab := gwS hg Z1; replace HB := hbS Z1 hb; clear hb hbox hg) | ((with_reducible refine gate_dst (N := 3) rfl ?_); refine bxE 3 #[.int .i64 Aj, .int .i64 Ak, .slice Ap Ag.length Aq] 28 ?_; intro Av hg C9 hbox hb; have Ae := aM (hbox); have Aw := gwS hg Z28; have Al := gwS hg Z28; replace HB := hbS Z28 hb; have Ac := nbL hg Aa; have Ad := nbG hg Aa; replace Aa := bkB Aa hb; clear hb hbox hg; have C0 := Ac.out; have C1 := Ad.out; obtain ⟨Cj, Ck, Cl⟩ := bz3 Aa; obtain ⟨Cm, Cn, Co⟩ := fz3 Aa; obtain ⟨Cp, Cq, Cr⟩ := bz3 Ae; obtain ⟨Cs, Ct, Cu⟩ := fz3 Ae))
  go_ret
  exact ⟨Z12, Z65⟩
end Go.Proofs.Ytcjalfgnnabghaa.H
