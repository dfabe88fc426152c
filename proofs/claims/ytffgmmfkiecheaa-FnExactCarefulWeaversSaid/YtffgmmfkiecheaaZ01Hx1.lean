-- by wip/pack.py of this repo
import Derived.Test.YtffgmmfkiecheaaZ01Hx0
import Derived.Test.YtffgmmfkiecheaaZ01WKept
import Derived.Test.YtffgmmfkiecheaaZ01WLast
import Derived.Test.YtffgmmfkiecheaaZ01WMore
import Derived.Test.YtffgmmfkiecheaaZ01WTab
import Derived.Test.YtffgmmfkiecheaaZ01WWords
import Derived.Test.YtffgmmfkiecheaaZ01Short
namespace Go.Proofs.Ytffgmmfkiecheaa.H
open Go.RowKit Go.Proofs.YtffgmmfkiecheaaW.PrintWords Go.Proofs.YtffgmmfkiecheaaW.PrintLast Go.Proofs.YtffgmmfkiecheaaW.PrintMore
attribute [local go_sem] max2_int min2_int max_two min_two max_three min_three max_four min_four
set_option maxHeartbeats 8000000
set_option maxRecDepth 100000
set_option linter.unusedVariables false
set_option linter.unusedSimpArgs false
def laws_szWorkSheetS.f (l0 : List (S65)) (a1 : Int) : Option (Int) := if (wrap64 (a1 - (l0.length : Int))) < 0 then (some (-1)) else (some (wrap64 (a1 - (l0.length : Int))))
theorem laws_szWorkSheetS.calls (A0 : Option Addr) (c0 : Nat) (l0 : List (S65)) (a1 : Int) (r : Int) (w : World) (Aa : Kd.C k65 w A0 l0.length l0) (Ab : l0.length ≤ c0) (h : laws_szWorkSheetS.f l0 a1 = some r) :
  Calls Try.prog 6 #[.slice A0 l0.length c0, .int .i64 a1] w fun e w' => e = .returned (.int .i64 r) ∧ Drawn0 w w' := by
 have Ac := Aside0.mk Aa; have Ad := Aside0.mk Ab; clear Aa Ab; have H : (if (wrap64 (a1 - (l0.length : Int))) < 0 then (some (-1)) else (some (wrap64 (a1 - (l0.length : Int))))) = some r := h; clear h
 by_cases c3 : (wrap64 (a1 - (l0.length : Int))) < 0
 ·rw [if_pos c3] at H
  have c3b0 : decide ((wrap64 (a1 - (l0.length : Int))) < 0) = true := decide_eq_true c3; clear c3; obtain rfl := Option.some.inj H
  go_enter Try.func6, Try.ntmps6
  go_wp2
  go_ret
  exact ⟨Z3, Z9⟩
 ·rw [if_neg c3] at H
  have c3b0 : decide ((wrap64 (a1 - (l0.length : Int))) < 0) = false := decide_eq_false c3; clear c3; obtain rfl := Option.some.inj H
  go_enter Try.func6, Try.ntmps6
  go_wp2
  go_ret
  exact ⟨Z3, Z9⟩
def laws_toWorkSheet.f (a0_0 : Int) (a0_1 : Int) (a0_2 : Int) (a0_3 : Int) (a0_4 : Int) : Option (Int × Int × Int × Int × Int) := some (a0_0, a0_1, a0_2, a0_3, a0_4)
theorem laws_toWorkSheet.calls (Ae : Int) (Af : Int) (Ag : Int) (Ai : Int) (Ao : Int) (r1 : Int) (r2 : Int) (r3 : Int) (r4 : Int) (r5 : Int) (w : World) (h : laws_toWorkSheet.f Ae Af Ag Ai Ao = some (r1, r2, r3, r4, r5)) :
  Calls Try.prog 38 #[.agg #[.int .i64 Ae, .int .i64 Af, .int .i64 Ag, .int .i64 Ai, .int .i64 Ao]] w fun e w' => e = .returned (.agg #[.int .i64 r1, .int .i64 r2, .int .i64 r3, .int .i64 r4, .int .i64 r5]) ∧ Below w.heap.size w w' := by
 have hu65 := Try.underlying65; have hu48 := Try.underlying48; have HB := aM (Below.refl w.heap.size w); have H : (some (Ae, Af, Ag, Ai, Ao)) = some (r1, r2, r3, r4, r5) := h; clear h
 simp only [Option.some.injEq, Prod.mk.injEq] at H
 obtain ⟨rfl, rfl, rfl, rfl, rfl⟩ := H
 go_enter Try.func38, Try.ntmps38
 go_wp2_with (first | ((with_reducible refine gate_dst (N := 1) rfl ?_); refine bxE 1 #[.int .i64 Ae, .int .i64 Af, .int .i64 Ag, .int .i64 Ai, .int .i64 Ao] 65 ?_; intro Bz hg w2 hbox hb; have Ab := aM (hbox); have B0 := gwS hg Z0; have Ac := gwS hg Z0; replace HB := hbS Z0 hb; clear hb hbox hg) | ((with_reducible refine gate_dst (N := 2) rfl ?_); refine bxE 2 #[.int .i64 0, .int .i64 0, .int .i64 0, .int .i64 0, .int .i64 0] 48 ?_; intro Aq hg w3 hbox hb; have Ad := aM (hbox); have B1 := gwS hg Z27; have Ah := gwS hg Z27; replace HB := hbS Z27 hb; have Aj := nbL hg Ab; have Ak := nbG hg Ab; replace Ab := bkB Ab hb; clear hb hbox hg) | ((with_reducible refine gate_dst (N := 3) rfl ?_); refine bxE 3 #[.int .i64 0, .int .i64 0, .int .i64 0, .int .i64 0, .int .i64 0] 48 ?_; intro B2 hg w4 hbox hb; have Ap := aM (hbox); have B3 := gwS hg Z22; have Ar := gwS hg Z22; replace HB := hbS Z22 hb; have Al := nbL hg Ab; have Am := nbG hg Ab; replace Ab := bkB Ab hb; have Aa := nbL hg Ad; have An := nbG hg Ad; replace Ad := bkB Ad hb; clear hb hbox hg; have B5 := Aj.out; have B7 := Ak.out; have B8 := Al.out; have B9 := Am.out; obtain ⟨Bd, Bf, Bg, Bh, Bi⟩ := bz5 Ab; obtain ⟨Bj, Bk, Bl, Bm, Bn⟩ := fz5 Ab; have Ca := An.out; have Cb := Aa.out; obtain ⟨Bo, Bp, Bq, Br, Bs⟩ := bz5 Ap; obtain ⟨Bt, Bu, Bv, Bw, Bx⟩ := fz5 Ap; obtain ⟨Au, Av, Aw, Ax, Ay⟩ := bz5 Ad; obtain ⟨Az, A3, Ba, Bb, Bc⟩ := fz5 Ad))
 refine bodyPost_ret (results_cell_row rfl _ _ Aq 48 #[.int .i64 Ae, .int .i64 Af, .int .i64 Ag, .int .i64 Ai, .int .i64 Ao] (0, 0) _ rfl (by (with_reducible repeat (first | refine blk_drewN ?_ _ | refine blk_drew ?_ | refine blk_alloc ?_ _)); refine blk_put (cs := #[.int .i64 Ae, .int .i64 Af, .int .i64 Ag, .int .i64 Ai, .int .i64 0]) ?_ 4 _ rfl; (with_reducible repeat (first | refine blk_drewN ?_ _ | refine blk_drew ?_ | refine blk_alloc ?_ _)); refine blk_put (cs := #[.int .i64 Ae, .int .i64 Af, .int .i64 Ag, .int .i64 0, .int .i64 0]) ?_ 3 _ rfl; (with_reducible repeat (first | refine blk_drewN ?_ _ | refine blk_drew ?_ | refine blk_alloc ?_ _)); refine blk_put (cs := #[.int .i64 Ae, .int .i64 Af, .int .i64 0, .int .i64 0, .int .i64 0]) ?_ 2 _ rfl; (with_reducible repeat (first | refine blk_drewN ?_ _ | refine blk_drew ?_ | refine blk_alloc ?_ _)); refine blk_put (cs := #[.int .i64 Ae, .int .i64 0, .int .i64 0, .int .i64 0, .int .i64 0]) ?_ 1 _ rfl; (with_reducible repeat (first | refine blk_drewN ?_ _ | refine blk_drew ?_ | refine blk_alloc ?_ _)); refine blk_put (cs := #[.int .i64 0, .int .i64 0, .int .i64 0, .int .i64 0, .int .i64 0]) ?_ 0 _ rfl; (with_reducible repeat (first | refine blk_drewN ?_ _ | refine blk_drew ?_ | refine blk_alloc ?_ _)); refine blk_far ?_ Aa.out _; (with_reducible repeat (first | refine blk_drewN ?_ _ | refine blk_drew ?_ | refine blk_alloc ?_ _)); refine blk_far ?_ Aa.out _; (with_reducible repeat (first | refine blk_drewN ?_ _ | refine blk_drew ?_ | refine blk_alloc ?_ _)); refine blk_far ?_ Aa.out _; (with_reducible repeat (first | refine blk_drewN ?_ _ | refine blk_drew ?_ | refine blk_alloc ?_ _)); refine blk_far ?_ Aa.out _; (with_reducible repeat (first | refine blk_drewN ?_ _ | refine blk_drew ?_ | refine blk_alloc ?_ _)); refine blk_far ?_ Aa.out _; (with_reducible repeat (first | refine blk_drewN ?_ _ | refine blk_drew ?_ | refine blk_alloc ?_ _)); exact Ad.out) Try.underlying48 rfl Z6) rfl ?_
 exact ⟨Z4, by repeat (first | (with_reducible first | exact HB.out | apply below_alloc | apply pw_below_drewN | apply below_drew1 | refine below_set ?_ Ac.out | refine below_set ?_ Ah.out | refine below_set ?_ Ar.out) | exact HB.out)⟩
def laws_toWorkSheetS.l0 : Nat → List (S65) → List (S48) → Int → Option ((List (S48)))
 | 0, _, _, _ => none
 | k + 1, x0, x3, x4 => if x4 < (x0.length : Int) then (if 0 ≤ x4 then ((laws_toWorkSheet.f ((rd_T65 x0 x4).f0) ((rd_T65 x0 x4).f1) ((rd_T65 x0 x4).f2) ((rd_T65 x0 x4).f3) ((rd_T65 x0 x4).f4)).bind fun bt108 => (if x4 < (x3.length : Int) then (laws_toWorkSheetS.l0 k x0 (x3.set (x4 : Int).toNat (⟨bt108.1, bt108.2.1, bt108.2.2.1, bt108.2.2.2.1, bt108.2.2.2.2⟩ : S48)) (wrap64 (x4 + 1))) else (none))) else (none)) else (some x3)
def laws_toWorkSheetS.f (k : Nat) (l0 : List (S65)) : Option ((List (S48))) := if 0 ≤ (l0.length : Int) then (if ((l0.length : Int) : Int).toNat ≤ 7036874417766 then (laws_toWorkSheetS.l0 k l0 (List.replicate ((l0.length : Int) : Int).toNat z48) 0) else (none)) else (none)
theorem laws_toWorkSheetS.calls (k : Nat) (A0 : Option Addr) (c0 : Nat) (l0 : List (S65)) (r : List (S48)) (w : World) (B7 : Kd.C k65 w A0 l0.length l0) (B8 : l0.length ≤ c0) (h : laws_toWorkSheetS.f k l0 = some r) :
  Calls Try.prog 9 #[.slice A0 l0.length c0] w fun e w' => ∃ v0_ : Value, e = .returned (v0_) ∧ Kd.R k48 48 w' w.heap.size (fun _ => True) v0_ r ∧ Below w.heap.size w w' := by
 have hu65 := Try.underlying65; have hu48 := Try.underlying48; have Ca := Aside0.mk B7; have Cc := Aside0.mk B8; clear B7 B8; have HB := aM (Below.refl w.heap.size w); have H : (if 0 ≤ (l0.length : Int) then (if ((l0.length : Int) : Int).toNat ≤ 7036874417766 then (laws_toWorkSheetS.l0 k l0 (List.replicate ((l0.length : Int) : Int).toNat z48) 0) else (none)) else (none)) = some r := h; clear h
 by_cases c2 : 0 ≤ (l0.length : Int)
 ·rw [if_pos c2] at H
  have c2b0 := eq_true c2; have c2b1 : decide (0 ≤ (l0.length : Int)) = true := decide_eq_true c2; clear c2
  by_cases c3 : ((l0.length : Int) : Int).toNat ≤ 7036874417766
  ·rw [if_pos c3] at H
   have c3b0 := eq_true c3; have c3b1 : decide (((l0.length : Int) : Int).toNat ≤ 7036874417766) = true := decide_eq_true c3; clear c3; obtain ⟨Bj, Aj⟩ : ∃ y_ : List (S48), y_ = (List.replicate ((l0.length : Int) : Int).toNat z48) := ⟨_, rfl⟩
   replace H : (laws_toWorkSheetS.l0 k l0 Bj 0) = some r := by first | (rw [Aj]; with_reducible exact H) | (have H2_ := (Option.bind_some _ _).symm.trans H; rw [Aj]; with_reducible exact H2_) | (have H2_ := (Option.bind_some _ _).symm.trans H; with_reducible exact H2_) | with_reducible exact H | (rw [Aj]; exact H) | exact H
   have Au := Aside0.mk Aj; clear Aj; have H' := Aside0.mk H; clear H
   go_enter Try.func9, Try.ntmps9
   go_wp2_with (first | ((with_reducible refine gate_dst (N := 7) rfl ?_); refine Kd.R_make k48 _ 48 rfl (N := 7) rfl 31 _ _ rfl (l0.length : Int) rfl rfl Try.underlying31 (.agg #[(.int .i64 0), (.int .i64 0), (.int .i64 0), (.int .i64 0), (.int .i64 0)]) 40 info48 rfl (by decide) (by omega) z48 (ok := fun _ => True) (okp := fun _ => True) (k48_mkM _ _ _ z48 ) (fun _ hk => hk) trivial (of_decide_eq_true Z2) (Nat.le_trans (Nat.mul_le_mul_right _ (of_decide_eq_true Z2 : (l0.length : Int).toNat ≤ 7036874417766)) (by omega)) (Below.refl _ _) (Nat.le_refl _) ?_; intro Bq w4 Bk hb hg_ hnew_; clear hg_ hnew_; (first | rw [← Au.out] at Bk | (simp only [Int.reduceToNat] at Bk; rw [← Au.out] at Bk)); have Bl := aM (Kd.R_lower Bk (below_size Z0)); replace HB := hbS Z0 hb; clear hb Bk))
   go_loopg [4] k (fun kq v4 w' => ∃ (Ab : List (S48)) (Aa : Int), v4 = .int .i64 Aa ∧ Aside0 (laws_toWorkSheetS.l0 kq l0 Ab Aa = some r) ∧ Aside0 (kq ≤ k) ∧ Aside0 (Kd.R k48 48 w' w.heap.size (fun _ => True) Bq Ab) ∧ Aside0 (Below w.heap.size w w'))
   case atStart => exact ⟨(Bj), (0), Z3, H', ⟨Nat.le_refl _⟩, ⟨by (with_reducible repeat (first | apply Kd.R_alloc | apply Kd.R_drewN | apply Kd.R_drew)); exact Bl.out⟩, ⟨Z0⟩⟩
   case round =>
    clear H'; (try clear c2); (try clear c2b0); (try clear c2b1); (try clear p2); (try clear c3); (try clear c3b0); (try clear c3b1); obtain ⟨Ab, Aa, rfl, HA, HK1, Ad, HB⟩ := hrel; cases gk with
    | zero => exact absurd HA.out (by simp [laws_toWorkSheetS.l0])
    | succ k1 =>
     have H := HA.out; clear HA
     simp only [laws_toWorkSheetS.l0] at H
     by_cases c6 : Aa < (l0.length : Int)
     ·rw [if_pos c6] at H
      have c6b0 : decide (Aa < (l0.length : Int)) = true := decide_eq_true c6; clear c6
      by_cases c7 : 0 ≤ Aa
      ·rw [if_pos c7] at H
       have c7b0 : decide (0 ≤ Aa) = true := decide_eq_true c7; clear c7; replace H := Option.bind_eq_some_iff.mp H; obtain ⟨⟨Al, Am, An, Ao, Ap⟩, B9, H⟩ := H; replace H : (if Aa < (Ab.length : Int) then (laws_toWorkSheetS.l0 k1 l0 (Ab.set (Aa : Int).toNat (⟨Al, Am, An, Ao, Ap⟩ : S48)) (wrap64 (Aa + 1))) else (none)) = some r := H; have A8 := Aside0.mk B9; clear B9
       by_cases c9 : Aa < (Ab.length : Int)
       ·rw [if_pos c9] at H
        have c9b0 : decide (Aa < (Ab.length : Int)) = true := decide_eq_true c9; clear c9; obtain ⟨Av, Ak⟩ : ∃ y_ : List (S48), y_ = (Ab.set (Aa : Int).toNat (⟨Al, Am, An, Ao, Ap⟩ : S48)) := ⟨_, rfl⟩
        replace H : (laws_toWorkSheetS.l0 k1 l0 Av (wrap64 (Aa + 1))) = some r := by first | (rw [Ak]; with_reducible exact H) | (have H2_ := (Option.bind_some _ _).symm.trans H; rw [Ak]; with_reducible exact H2_) | (have H2_ := (Option.bind_some _ _).symm.trans H; with_reducible exact H2_) | with_reducible exact H | (rw [Ak]; exact H) | exact H
        have Bm := Aside0.mk Ak; clear Ak; have H' := Aside0.mk H; clear H; have Aw : 0 ≤ (Aa : Int) := of_decide_eq_true Z2; have Ax : Aa < (l0.length : Int) := of_decide_eq_true Z2; obtain ⟨ad107, e107, Ae, Af, Ag, Ah, Ai⟩ := at_T65 Ca.out Aa Aw Ax; cases e107; replace Ae := (HB.out.cell (World.block_lt_of_cell? w _ Ae)).trans Ae; replace Af := (HB.out.cell (World.block_lt_of_cell? w _ Af)).trans Af; replace Ag := (HB.out.cell (World.block_lt_of_cell? w _ Ag)).trans Ag; replace Ah := (HB.out.cell (World.block_lt_of_cell? w _ Ah)).trans Ah; replace Ai := (HB.out.cell (World.block_lt_of_cell? w _ Ai)).trans Ai; replace Aw := eq_true Aw; replace Ax := eq_true Ax
        go_wp2_with (first | ((with_reducible refine gate_callee (f := 38) rfl ?_); refine glE (some 20) Try.func38 #[.agg #[.int .i64 ((rd_T65 l0 Aa).f0), .int .i64 ((rd_T65 l0 Aa).f1), .int .i64 ((rd_T65 l0 Aa).f2), .int .i64 ((rd_T65 l0 Aa).f3), .int .i64 ((rd_T65 l0 Aa).f4)]] ?_; (with_reducible refine (laws_toWorkSheet.calls ((rd_T65 l0 Aa).f0) ((rd_T65 l0 Aa).f1) ((rd_T65 l0 Aa).f2) ((rd_T65 l0 Aa).f3) ((rd_T65 l0 Aa).f4) Al Am An Ao Ap _ A8.out).mono ?_); rintro e Aq ⟨rfl, hb⟩; refine ⟨_, rfl, ?_⟩; replace Ad := roB Ad hb; replace HB := hbS Z0 hb; (try clear hb); have Br : 0 ≤ (Aa : Int) := of_decide_eq_true Z2; have Bs : (Aa : Int) < ((Ab.length : Int) : Int) := of_decide_eq_true Z2; obtain ⟨Ac, Bn, Bo, Bp, gl10, cl10, HG10⟩ := Kd.R_form Ad.out (by omega); (first | cases Bo | (injection Bo with ea_ en_ ec_; (first | subst ea_ | (injection ea_ with ea_; subst ea_)); subst ec_; clear en_)); have Ar := Aside0.mk Bp; have Cb := Aside0.mk HG10; clear Bp gl10 HG10; obtain ⟨ce10, hcl10, hM10, hcc10, hfr10⟩ := Kd.R_elem Ad.out z48 (Aa : Int) Br Bs; obtain rfl := k48_openM hM10; have Bt : Aq.cell? ⟨Ac, (Aa : Int).toNat * 5, none⟩ = some (.int .i64 ((rd_T48 Ab Aa).f0)) := hcc10 0 _ rfl; have Bu : Aq.cell? ⟨Ac, (Aa : Int).toNat * 5 + 1, none⟩ = some (.int .i64 ((rd_T48 Ab Aa).f1)) := hcc10 1 _ rfl; have Bv : Aq.cell? ⟨Ac, (Aa : Int).toNat * 5 + 2, none⟩ = some (.int .i64 ((rd_T48 Ab Aa).f2)) := hcc10 2 _ rfl; have Bw : Aq.cell? ⟨Ac, (Aa : Int).toNat * 5 + 3, none⟩ = some (.int .i64 ((rd_T48 Ab Aa).f3)) := hcc10 3 _ rfl; have Bx : Aq.cell? ⟨Ac, (Aa : Int).toNat * 5 + 4, none⟩ = some (.int .i64 ((rd_T48 Ab Aa).f4)) := hcc10 4 _ rfl; have Bz : Aq.frozen? ⟨Ac, (Aa : Int).toNat * 5, none⟩ = false := hfr10 0; have B0 : Aq.frozen? ⟨Ac, (Aa : Int).toNat * 5 + 1, none⟩ = false := hfr10 1; have B1 : Aq.frozen? ⟨Ac, (Aa : Int).toNat * 5 + 2, none⟩ = false := hfr10 2; have B2 : Aq.frozen? ⟨Ac, (Aa : Int).toNat * 5 + 3, none⟩ = false := hfr10 3; have B3 : Aq.frozen? ⟨Ac, (Aa : Int).toNat * 5 + 4, none⟩ = false := hfr10 4; clear hcl10 hcc10 hfr10 hM10; replace Br := eq_true Br; replace Bs := eq_true Bs; have HX12 := aM (show Kd.R k48 48 Aq w.heap.size (fun _ => True) (.slice (some ⟨Ac, 0, none⟩) Ab.length Bn) Ab from Z36); obtain ⟨ce12, hcl12, hM12, hcc12, hfr12⟩ := Kd.R_elem HX12.out z48 (Aa : Int) (of_decide_eq_true Z2) Z64; obtain rfl := k48_openM hM12; have Ay := Kd.R_seg HX12.out (Aa : Int) (of_decide_eq_true Z2) Z64 (seg := [.int .i64 Al, .int .i64 Am, .int .i64 An, .int .i64 Ao, .int .i64 Ap]) (j := 0) hcl12 hcc12 (show 5 ≤ 5 from by decide) (x' := (⟨Al, Am, An, Ao, Ap⟩ : S48)) (k48_mkM _ _ _ (⟨Al, Am, An, Ao, Ap⟩ : S48) ) (fun _ hk => hk); have Az := hcc12 0 _ rfl; (try simp only [show (k48).sz = 5 from rfl, Nat.mul_one, Nat.add_zero] at Az); have A3 := hfr12 0; (try simp only [show (k48).sz = 5 from rfl, Nat.mul_one, Nat.add_zero] at A3); have Ba := hcc12 1 _ rfl; (try simp only [show (k48).sz = 5 from rfl, Nat.mul_one, Nat.add_zero] at Ba); have Bb := hfr12 1; (try simp only [show (k48).sz = 5 from rfl, Nat.mul_one, Nat.add_zero] at Bb); have Bc := hcc12 2 _ rfl; (try simp only [show (k48).sz = 5 from rfl, Nat.mul_one, Nat.add_zero] at Bc); have Bd := hfr12 2; (try simp only [show (k48).sz = 5 from rfl, Nat.mul_one, Nat.add_zero] at Bd); have Bf := hcc12 3 _ rfl; (try simp only [show (k48).sz = 5 from rfl, Nat.mul_one, Nat.add_zero] at Bf); have Bg := hfr12 3; (try simp only [show (k48).sz = 5 from rfl, Nat.mul_one, Nat.add_zero] at Bg); have Bh := hcc12 4 _ rfl; (try simp only [show (k48).sz = 5 from rfl, Nat.mul_one, Nat.add_zero] at Bh); have Bi := hfr12 4; (try simp only [show (k48).sz = 5 from rfl, Nat.mul_one, Nat.add_zero] at Bi); clear hcl12 hcc12 hfr12 hM12) | ((with_reducible refine gate_store (t := 48) (p := 21) rfl ?_); refine store_event (t := 48) (p := 21) (v := ?vo_w13) (w1 := (((((Aq.setCell ⟨Ac, (Aa : Int).toNat * 5, none⟩ (.int .i64 Al)).setCell ⟨Ac, (Aa : Int).toNat * 5 + 1, none⟩ (.int .i64 Am)).setCell ⟨Ac, (Aa : Int).toNat * 5 + 2, none⟩ (.int .i64 An)).setCell ⟨Ac, (Aa : Int).toNat * 5 + 3, none⟩ (.int .i64 Ao)).setCell ⟨Ac, (Aa : Int).toNat * 5 + 4, none⟩ (.int .i64 Ap))) ?hg ?ho ?hn ?hr ?_; (case ho => rfl); (case hg => rfl); (case hn => rfl); (case hr => first | (go_simp; done) | (go_simp; rfl)); intro B5 hw; have hg : Aq.grownBy B5 (some Ac) := (by rw [hw]; exact Ay.2); have hp_ : Kd.R k48 48 B5 w.heap.size (fun _ => True) (.slice (some ⟨Ac, 0, none⟩) Ab.length Bn) Av := (by rw [hw, Bm.out]; exact Ay.1); clear Ay; replace Ad := aM (hp_); replace HB := aM ((by rw [hw]; exact below_set (below_set (below_set (below_set (below_set (HB.out) Ar.out) Ar.out) Ar.out) Ar.out) Ar.out : Below w.heap.size w B5)); clear hg hw hp_))
        go_roundg k1
        case measure => have := HK1.out; omega
        case rel => exact ⟨(Av), (wrap64 (Aa + 1)), Z3, H', ⟨Z39⟩, ⟨Z36⟩, ⟨Z0⟩⟩
       ·rw [if_neg c9] at H
        exact absurd H (by simp)
      ·rw [if_neg c7] at H
       exact absurd H (by simp)
     ·rw [if_neg c6] at H
      have c6b0 : decide (Aa < (l0.length : Int)) = false := decide_eq_false c6; clear c6; obtain rfl := Option.some.inj H
      go_wp2
      go_ret
      exact ⟨_, Z4, Z36, Z0⟩
  ·rw [if_neg c3] at H
   exact absurd H (by simp)
 ·rw [if_neg c2] at H
  exact absurd H (by simp)
def laws_eqIntS.l0 : Nat → List Int → List Int → Int → Option (Bool)
 | 0, _, _, _ => none
 | k + 1, x0, x1, x5 => if x5 < (x0.length : Int) then (if 0 ≤ x5 then (if x5 < (x1.length : Int) then (if (rd x0 x5) = (rd x1 x5) then (laws_eqIntS.l0 k x0 x1 (wrap64 (x5 + 1))) else (some false)) else (none)) else (none)) else (some true)
def laws_eqIntS.f (k : Nat) (l0 : List Int) (l1 : List Int) : Option (Bool) := if (l0.length : Int) = (l1.length : Int) then (laws_eqIntS.l0 k l0 l1 0) else (some false)
theorem laws_eqIntS.calls (k : Nat) (A0 : Option Addr) (c0 : Nat) (l0 : List Int) (A1 : Option Addr) (c1 : Nat) (l1 : List Int) (r : Bool) (w : World) (Ah : Kd.C (Kd.int .i64) w A0 l0.length l0) (Ai : l0.length ≤ c0) (Aj : Kd.C (Kd.int .i64) w A1 l1.length l1) (Ak : l1.length ≤ c1) (h : laws_eqIntS.f k l0 l1 = some r) :
  Calls Try.prog 11 #[.slice A0 l0.length c0, .slice A1 l1.length c1] w fun e w' => e = .returned (.bool r) ∧ Drawn0 w w' := by
 have Al := Aside0.mk Ah; have An := Aside0.mk Ai; clear Ah Ai; have Am := Aside0.mk Aj; have Ao := Aside0.mk Ak; clear Aj Ak; have H : (if (l0.length : Int) = (l1.length : Int) then (laws_eqIntS.l0 k l0 l1 0) else (some false)) = some r := h; clear h
 by_cases c3 : (l0.length : Int) = (l1.length : Int)
 ·rw [if_pos c3] at H
  have c3b0 : ((l0.length : Int) == (l1.length : Int)) = true := beq_iff_eq.mpr c3; have c3b1 : ((l0.length : Int) != (l1.length : Int)) = false := bne_eq_false_iff_eq.mpr c3
  have c3b2 : (l0.length == l1.length) = true := by first | simpa using c3 | (simp at c3 ⊢; omega)
  clear c3; have H' := Aside0.mk H; clear H
  go_enter Try.func11, Try.ntmps11
  go_wp2
  repeat (go_quiet (fail); try go_wp2)
  go_loopg [5] k (fun kq v5 w' => ∃ (Aa : Int), v5 = .int .i64 Aa ∧ Aside0 (laws_eqIntS.l0 kq l0 l1 Aa = some r) ∧ Aside0 (kq ≤ k) ∧ Drawn0 w w')
  case atStart => exact ⟨(0), Z3, H', ⟨Nat.le_refl _⟩, Z9⟩
  case round =>
   clear H'; (try clear c1); (try clear p2); (try clear c3); (try clear c3b0); (try clear c3b1); (try clear c3b2); obtain ⟨Aa, rfl, HA, HK1, ⟨m1, rfl⟩⟩ := hrel; cases gk with
   | zero => exact absurd HA.out (by simp [laws_eqIntS.l0])
   | succ k1 =>
    have H := HA.out; clear HA
    simp only [laws_eqIntS.l0] at H
    by_cases c4 : Aa < (l0.length : Int)
    ·rw [if_pos c4] at H
     have c4b0 : decide (Aa < (l0.length : Int)) = true := decide_eq_true c4; clear c4
     by_cases c5 : 0 ≤ Aa
     ·rw [if_pos c5] at H
      have c5b0 : decide (0 ≤ Aa) = true := decide_eq_true c5; clear c5
      by_cases c6 : Aa < (l1.length : Int)
      ·rw [if_pos c6] at H
       have c6b0 : decide (Aa < (l1.length : Int)) = true := decide_eq_true c6; clear c6
       by_cases c7 : (rd l0 Aa) = (rd l1 Aa)
       ·rw [if_pos c7] at H
        have c7b0 : ((rd l0 Aa) == (rd l1 Aa)) = true := beq_iff_eq.mpr c7; have c7b1 : ((rd l0 Aa) != (rd l1 Aa)) = false := bne_eq_false_iff_eq.mpr c7; clear c7; have H' := Aside0.mk H; clear H; have Ab : 0 ≤ (Aa : Int) := of_decide_eq_true Z2; have Ac : Aa < (l0.length : Int) := of_decide_eq_true Z2; obtain ⟨ad114, e114, Af⟩ := Kd.at_int Al.out Aa Ab Ac; cases e114; replace Ab := eq_true Ab; replace Ac := eq_true Ac; have Ad : 0 ≤ (Aa : Int) := of_decide_eq_true Z2; have Ae : Aa < (l1.length : Int) := of_decide_eq_true Z2; obtain ⟨ad115, e115, Ag⟩ := Kd.at_int Am.out Aa Ad Ae; cases e115; replace Ad := eq_true Ad; replace Ae := eq_true Ae
        go_wp2
        repeat (go_quiet (fail); try go_wp2)
        go_roundg k1
        case measure => have := HK1.out; omega
        case rel => exact ⟨(wrap64 (Aa + 1)), Z3, H', ⟨Z39⟩, Z9⟩
       ·rw [if_neg c7] at H
        have c7b0 : ((rd l0 Aa) == (rd l1 Aa)) = false := beq_eq_false_iff_ne.mpr c7; have c7b1 : ((rd l0 Aa) != (rd l1 Aa)) = true := bne_iff_ne.mpr c7; obtain rfl := Option.some.inj H; have Ab : 0 ≤ (Aa : Int) := of_decide_eq_true Z2; have Ac : Aa < (l0.length : Int) := of_decide_eq_true Z2; obtain ⟨ad114, e114, Af⟩ := Kd.at_int Al.out Aa Ab Ac; cases e114; replace Ab := eq_true Ab; replace Ac := eq_true Ac; have Ad : 0 ≤ (Aa : Int) := of_decide_eq_true Z2; have Ae : Aa < (l1.length : Int) := of_decide_eq_true Z2; obtain ⟨ad115, e115, Ag⟩ := Kd.at_int Am.out Aa Ad Ae; cases e115; replace Ad := eq_true Ad; replace Ae := eq_true Ae
        go_wp2
        repeat (go_quiet (fail); try go_wp2)
        go_ret
        exact ⟨Z3, Z9⟩
      ·rw [if_neg c6] at H
       exact absurd H (by simp)
     ·rw [if_neg c5] at H
      exact absurd H (by simp)
    ·rw [if_neg c4] at H
     have c4b0 : decide (Aa < (l0.length : Int)) = false := decide_eq_false c4; clear c4; obtain rfl := Option.some.inj H
     go_wp2
     repeat (go_quiet (fail); try go_wp2)
     go_ret
     exact ⟨Z3, Z9⟩
 ·rw [if_neg c3] at H
  have c3b0 : ((l0.length : Int) == (l1.length : Int)) = false := beq_eq_false_iff_ne.mpr c3; have c3b1 : ((l0.length : Int) != (l1.length : Int)) = true := bne_iff_ne.mpr c3
  have c3b2 : (l0.length == l1.length) = false := by first | simpa using c3 | (simp at c3 ⊢; omega)
  obtain rfl := Option.some.inj H
  go_enter Try.func11, Try.ntmps11
  go_wp2
  repeat (go_quiet (fail); try go_wp2)
  go_ret
  exact ⟨Z3, Z9⟩
def laws_eqWorkSheet.f (a0_0 : Int) (a0_1 : Int) (a0_2 : Int) (a0_3 : Int) (a0_4 : Int) (a1_0 : Int) (a1_1 : Int) (a1_2 : Int) (a1_3 : Int) (a1_4 : Int) : Option (Bool) := if a0_0 = a1_0 then (if a0_1 = a1_1 then (if a0_2 = a1_2 then (if a0_3 = a1_3 then (if a0_4 = a1_4 then (some true) else (some false)) else (some false)) else (some false)) else (some false)) else (some false)
theorem laws_eqWorkSheet.calls (Ag : Int) (Ah : Int) (Ai : Int) (Aj : Int) (Ak : Int) (Al : Int) (Am : Int) (An : Int) (Ao : Int) (Ap : Int) (r : Bool) (w : World) (h : laws_eqWorkSheet.f Ag Ah Ai Aj Ak Al Am An Ao Ap = some r) :
  Calls Try.prog 41 #[.agg #[.int .i64 Ag, .int .i64 Ah, .int .i64 Ai, .int .i64 Aj, .int .i64 Ak], .agg #[.int .i64 Al, .int .i64 Am, .int .i64 An, .int .i64 Ao, .int .i64 Ap]] w fun e w' => e = .returned (.bool r) ∧ Below w.heap.size w w' := by
 have hu48 := Try.underlying48; have HB := aM (Below.refl w.heap.size w); have H : (if Ag = Al then (if Ah = Am then (if Ai = An then (if Aj = Ao then (if Ak = Ap then (some true) else (some false)) else (some false)) else (some false)) else (some false)) else (some false)) = some r := h; clear h
 by_cases c3 : Ag = Al
 ·rw [if_pos c3] at H
  have c3b0 : (Ag == Al) = true := beq_iff_eq.mpr c3; have c3b1 : (Ag != Al) = false := bne_eq_false_iff_eq.mpr c3; clear c3
  by_cases c4 : Ah = Am
  ·rw [if_pos c4] at H
   have c4b0 : (Ah == Am) = true := beq_iff_eq.mpr c4; have c4b1 : (Ah != Am) = false := bne_eq_false_iff_eq.mpr c4; clear c4
   by_cases c5 : Ai = An
   ·rw [if_pos c5] at H
    have c5b0 : (Ai == An) = true := beq_iff_eq.mpr c5; have c5b1 : (Ai != An) = false := bne_eq_false_iff_eq.mpr c5; clear c5
    by_cases c6 : Aj = Ao
    ·rw [if_pos c6] at H
     have c6b0 : (Aj == Ao) = true := beq_iff_eq.mpr c6; have c6b1 : (Aj != Ao) = false := bne_eq_false_iff_eq.mpr c6; clear c6
     by_cases c7 : Ak = Ap
     ·rw [if_pos c7] at H
      have c7b0 : (Ak == Ap) = true := beq_iff_eq.mpr c7; have c7b1 : (Ak != Ap) = false := bne_eq_false_iff_eq.mpr c7; clear c7; obtain rfl := Option.some.inj H
      go_enter Try.func41, Try.ntmps41
      go_wp2_with (first | ((with_reducible refine gate_dst (N := 2) rfl ?_); refine bxE 2 #[.int .i64 Ag, .int .i64 Ah, .int .i64 Ai, .int .i64 Aj, .int .i64 Ak] 48 ?_; intro Aq hg w8 hbox hb; have Aa := aM (hbox); have Ar := gwS hg Z0; have Ab := gwS hg Z0; replace HB := hbS Z0 hb; clear hb hbox hg) | ((with_reducible refine gate_dst (N := 3) rfl ?_); refine bxE 3 #[.int .i64 Al, .int .i64 Am, .int .i64 An, .int .i64 Ao, .int .i64 Ap] 48 ?_; intro Au hg w9 hbox hb; have Ae := aM (hbox); have Av := gwS hg Z5; have Af := gwS hg Z5; replace HB := hbS Z5 hb; have Ac := nbL hg Aa; have Ad := nbG hg Aa; replace Aa := bkB Aa hb; clear hb hbox hg; have Em := Ac.out; have En := Ad.out; obtain ⟨Aw, Ax, Ay, Az, A3⟩ := bz5 Aa; obtain ⟨Ba, Bb, Bc, Bd, Bf⟩ := fz5 Aa; obtain ⟨Bg, Bh, Bi, Bj, Bk⟩ := bz5 Ae; obtain ⟨Bl, Bm, Bn, Bo, Bp⟩ := fz5 Ae))
      go_ret
      exact ⟨Z4, Z13⟩
     ·rw [if_neg c7] at H
      have c7b0 : (Ak == Ap) = false := beq_eq_false_iff_ne.mpr c7; have c7b1 : (Ak != Ap) = true := bne_iff_ne.mpr c7; obtain rfl := Option.some.inj H
      go_enter Try.func41, Try.ntmps41
      go_wp2_with (first | ((with_reducible refine gate_dst (N := 2) rfl ?_); refine bxE 2 #[.int .i64 Ag, .int .i64 Ah, .int .i64 Ai, .int .i64 Aj, .int .i64 Ak] 48 ?_; intro Aq hg E0 hbox hb; have Aa := aM (hbox); have Ar := gwS hg Z0; have Ab := gwS hg Z0; replace HB := hbS Z0 hb; clear hb hbox hg) | ((with_reducible refine gate_dst (N := 3) rfl ?_); refine bxE 3 #[.int .i64 Al, .int .i64 Am, .int .i64 An, .int .i64 Ao, .int .i64 Ap] 48 ?_; intro Au hg E1 hbox hb; have Ae := aM (hbox); have Av := gwS hg Z5; have Af := gwS hg Z5; replace HB := hbS Z5 hb; have Ac := nbL hg Aa; have Ad := nbG hg Aa; replace Aa := bkB Aa hb; clear hb hbox hg; have Eo := Ac.out; have Ep := Ad.out; obtain ⟨Bq, Br, Bs, Bt, Bu⟩ := bz5 Aa; obtain ⟨Bv, Bw, Bx, Bz, B0⟩ := fz5 Aa; obtain ⟨B1, B2, B3, B5, B7⟩ := bz5 Ae; obtain ⟨B8, B9, Ca, Cb, Cc⟩ := fz5 Ae))
      go_ret
      exact ⟨Z4, Z13⟩
    ·rw [if_neg c6] at H
     have c6b0 : (Aj == Ao) = false := beq_eq_false_iff_ne.mpr c6; have c6b1 : (Aj != Ao) = true := bne_iff_ne.mpr c6; obtain rfl := Option.some.inj H
     go_enter Try.func41, Try.ntmps41
     go_wp2_with (first | ((with_reducible refine gate_dst (N := 2) rfl ?_); refine bxE 2 #[.int .i64 Ag, .int .i64 Ah, .int .i64 Ai, .int .i64 Aj, .int .i64 Ak] 48 ?_; intro Aq hg E2 hbox hb; have Aa := aM (hbox); have Ar := gwS hg Z0; have Ab := gwS hg Z0; replace HB := hbS Z0 hb; clear hb hbox hg) | ((with_reducible refine gate_dst (N := 3) rfl ?_); refine bxE 3 #[.int .i64 Al, .int .i64 Am, .int .i64 An, .int .i64 Ao, .int .i64 Ap] 48 ?_; intro Au hg E3 hbox hb; have Ae := aM (hbox); have Av := gwS hg Z5; have Af := gwS hg Z5; replace HB := hbS Z5 hb; have Ac := nbL hg Aa; have Ad := nbG hg Aa; replace Aa := bkB Aa hb; clear hb hbox hg; have Er := Ac.out; have Es := Ad.out; obtain ⟨Cd, Ce, Cf, Cg, Ch⟩ := bz5 Aa; obtain ⟨Ci, Cj, Ck, Cl, Cm⟩ := fz5 Aa; obtain ⟨Cn, Co, Cp, Cq, Cr⟩ := bz5 Ae; obtain ⟨Cs, Ct, Cu, Cv, Cw⟩ := fz5 Ae))
     go_ret
     exact ⟨Z4, Z13⟩
   ·rw [if_neg c5] at H
    have c5b0 : (Ai == An) = false := beq_eq_false_iff_ne.mpr c5; have c5b1 : (Ai != An) = true := bne_iff_ne.mpr c5; obtain rfl := Option.some.inj H
    go_enter Try.func41, Try.ntmps41
    go_wp2_with (first | ((with_reducible refine gate_dst (N := 2) rfl ?_); refine bxE 2 #[.int .i64 Ag, .int .i64 Ah, .int .i64 Ai, .int .i64 Aj, .int .i64 Ak] 48 ?_; intro Aq hg E4 hbox hb; have Aa := aM (hbox); have Ar := gwS hg Z0; have Ab := gwS hg Z0; replace HB := hbS Z0 hb; clear hb hbox hg) | ((with_reducible refine gate_dst (N := 3) rfl ?_); refine bxE 3 #[.int .i64 Al, .int .i64 Am, .int .i64 An, .int .i64 Ao, .int .i64 Ap] 48 ?_; intro Au hg E5 hbox hb; have Ae := aM (hbox); have Av := gwS hg Z5; have Af := gwS hg Z5; replace HB := hbS Z5 hb; have Ac := nbL hg Aa; have Ad := nbG hg Aa; replace Aa := bkB Aa hb; clear hb hbox hg; have Et := Ac.out; have Eu := Ad.out; obtain ⟨Cx, Cy, Cz, C0, C1⟩ := bz5 Aa; obtain ⟨C2, C3, C4, C5, C6⟩ := fz5 Aa; obtain ⟨C7, C8, C9, Da, Db⟩ := bz5 Ae; obtain ⟨Dc, Dd, De, Df, Dg⟩ := fz5 Ae))
    go_ret
    exact ⟨Z4, Z13⟩
  ·rw [if_neg c4] at H
   have c4b0 : (Ah == Am) = false := beq_eq_false_iff_ne.mpr c4; have c4b1 : (Ah != Am) = true := bne_iff_ne.mpr c4; obtain rfl := Option.some.inj H
   go_enter Try.func41, Try.ntmps41
   go_wp2_with (first | ((with_reducible refine gate_dst (N := 2) rfl ?_); refine bxE 2 #[.int .i64 Ag, .int .i64 Ah, .int .i64 Ai, .int .i64 Aj, .int .i64 Ak] 48 ?_; intro Aq hg E6 hbox hb; have Aa := aM (hbox); have Ar := gwS hg Z0; have Ab := gwS hg Z0; replace HB := hbS Z0 hb; clear hb hbox hg) | ((with_reducible refine gate_dst (N := 3) rfl ?_); refine bxE 3 #[.int .i64 Al, .int .i64 Am, .int .i64 An, .int .i64 Ao, .int .i64 Ap] 48 ?_; intro Au hg E7 hbox hb; have Ae := aM (hbox); have Av := gwS hg Z5; have Af := gwS hg Z5; replace HB := hbS Z5 hb; have Ac := nbL hg Aa; have Ad := nbG hg Aa; replace Aa := bkB Aa hb; clear hb hbox hg; have Ew := Ac.out; have Ex := Ad.out; obtain ⟨Dh, Di, Dj, Dk, Dl⟩ := bz5 Aa; obtain ⟨Dm, Dn, Dp, Dq, Dr⟩ := fz5 Aa; obtain ⟨Ds, Dt, Du, Dv, Dw⟩ := bz5 Ae; obtain ⟨Dx, Dy, Dz, D0, D1⟩ := fz5 Ae))
   go_ret
   exact ⟨Z4, Z13⟩
 ·rw [if_neg c3] at H
  have c3b0 : (Ag == Al) = false := beq_eq_false_iff_ne.mpr c3; have c3b1 : (Ag != Al) = true := bne_iff_ne.mpr c3; obtain rfl := Option.some.inj H
  go_enter Try.func41, Try.ntmps41
  go_wp2_with (first | ((with_reducible refine gate_dst (N := 2) rfl ?_); refine bxE 2 #[.int .i64 Ag, .int .i64 Ah, .int .i64 Ai, .int .i64 Aj, .int .i64 Ak] 48 ?_; intro Aq hg E8 hbox hb; have Aa := aM (hbox); have Ar := gwS hg Z0; have Ab := gwS hg Z0; replace HB := hbS Z0 hb; clear hb hbox hg) | ((with_reducible refine gate_dst (N := 3) rfl ?_); refine bxE 3 #[.int .i64 Al, .int .i64 Am, .int .i64 An, .int .i64 Ao, .int .i64 Ap] 48 ?_; intro Au hg E9 hbox hb; have Ae := aM (hbox); have Av := gwS hg Z5; have Af := gwS hg Z5; replace HB := hbS Z5 hb; have Ac := nbL hg Aa; have Ad := nbG hg Aa; replace Aa := bkB Aa hb; clear hb hbox hg; have Ey := Ac.out; have Ez := Ad.out; obtain ⟨D2, D3, D4, D5, D6⟩ := bz5 Aa; obtain ⟨D7, D8, D9, Ea, Eb⟩ := fz5 Aa; obtain ⟨Ec, Ed, Ee, Ef, Eg⟩ := bz5 Ae; obtain ⟨Eh, Ei, Ej, Ek, El⟩ := fz5 Ae))
  go_ret
  exact ⟨Z4, Z13⟩
def laws_eqWorkSheetS.l0 : Nat → List (S48) → List (S48) → Int → Option (Bool)
 | 0, _, _, _ => none
 | k + 1, x0, x1, x5 => if x5 < (x0.length : Int) then (if 0 ≤ x5 then (if x5 < (x1.length : Int) then ((laws_eqWorkSheet.f ((rd_T48 x0 x5).f0) ((rd_T48 x0 x5).f1) ((rd_T48 x0 x5).f2) ((rd_T48 x0 x5).f3) ((rd_T48 x0 x5).f4) ((rd_T48 x1 x5).f0) ((rd_T48 x1 x5).f1) ((rd_T48 x1 x5).f2) ((rd_T48 x1 x5).f3) ((rd_T48 x1 x5).f4)).bind fun t120 => (if t120 = true then (laws_eqWorkSheetS.l0 k x0 x1 (wrap64 (x5 + 1))) else (some false))) else (none)) else (none)) else (some true)
def laws_eqWorkSheetS.f (k : Nat) (l0 : List (S48)) (l1 : List (S48)) : Option (Bool) := if (l0.length : Int) = (l1.length : Int) then (laws_eqWorkSheetS.l0 k l0 l1 0) else (some false)
def laws_eqWorkSheetS.T6 : Bool × List (List Nat × List Nat) := (true, [([], []), ([], []), ([0, 1], [0, 1]), ([2], [2]), ([], []), ([], []), ([4, 5], [4, 5]), ([6], [6]), ([3, 7], [3, 7]), ([8], [8])])
def laws_eqWorkSheetS.B6 : List Nat := [0, 0, 3, 7, 0, 0, 48, 112, 255, 511]
theorem laws_eqWorkSheetS.tab6 : rtab .any (opsOf Try.f12 6) = laws_eqWorkSheetS.T6 := by kernel_rfl
theorem laws_eqWorkSheetS.bits6 : waitsOk laws_eqWorkSheetS.T6.2 laws_eqWorkSheetS.B6 = true := by kernel_rfl
theorem laws_eqWorkSheetS.calls (k : Nat) (A0 : Option Addr) (c0 : Nat) (l0 : List (S48)) (A1 : Option Addr) (c1 : Nat) (l1 : List (S48)) (r : Bool) (w : World) (Aq : Kd.C k48 w A0 l0.length l0) (Ar : l0.length ≤ c0) (Au : Kd.C k48 w A1 l1.length l1) (Av : l1.length ≤ c1) (h : laws_eqWorkSheetS.f k l0 l1 = some r) :
  Calls Try.prog 12 #[.slice A0 l0.length c0, .slice A1 l1.length c1] w fun e w' => e = .returned (.bool r) ∧ Below w.heap.size w w' := by
 have hu48 := Try.underlying48; have Aw := Aside0.mk Aq; have Az := Aside0.mk Ar; clear Aq Ar; have Ax := Aside0.mk Au; have A3 := Aside0.mk Av; clear Au Av; have HB := aM (Below.refl w.heap.size w); have H : (if (l0.length : Int) = (l1.length : Int) then (laws_eqWorkSheetS.l0 k l0 l1 0) else (some false)) = some r := h; clear h
 by_cases c3 : (l0.length : Int) = (l1.length : Int)
 ·rw [if_pos c3] at H
  have c3b0 : ((l0.length : Int) == (l1.length : Int)) = true := beq_iff_eq.mpr c3; have c3b1 : ((l0.length : Int) != (l1.length : Int)) = false := bne_eq_false_iff_eq.mpr c3
  have c3b2 : (l0.length == l1.length) = true := by first | simpa using c3 | (simp at c3 ⊢; omega)
  clear c3; have H' := Aside0.mk H; clear H
  go_enter Try.func12, Try.ntmps12
  go_wp2
  go_loopg [5] k (fun kq v5 w' => ∃ (Aa : Int), v5 = .int .i64 Aa ∧ Aside0 (laws_eqWorkSheetS.l0 kq l0 l1 Aa = some r) ∧ Aside0 (kq ≤ k) ∧ Aside0 (Below w.heap.size w w'))
  case atStart => exact ⟨(0), Z3, H', ⟨Nat.le_refl _⟩, ⟨Z0⟩⟩
  case round =>
   clear H'; (try clear c1); (try clear p2); (try clear c3); (try clear c3b0); (try clear c3b1); (try clear c3b2); obtain ⟨Aa, rfl, HA, HK1, HB⟩ := hrel; cases gk with
   | zero => exact absurd HA.out (by simp [laws_eqWorkSheetS.l0])
   | succ k1 =>
    have H := HA.out; clear HA
    simp only [laws_eqWorkSheetS.l0] at H
    by_cases c4 : Aa < (l0.length : Int)
    ·rw [if_pos c4] at H
     have c4b0 : decide (Aa < (l0.length : Int)) = true := decide_eq_true c4; clear c4
     by_cases c5 : 0 ≤ Aa
     ·rw [if_pos c5] at H
      have c5b0 : decide (0 ≤ Aa) = true := decide_eq_true c5; clear c5
      by_cases c6 : Aa < (l1.length : Int)
      ·rw [if_pos c6] at H
       have c6b0 : decide (Aa < (l1.length : Int)) = true := decide_eq_true c6; clear c6; replace H := Option.bind_eq_some_iff.mp H; obtain ⟨Ap, Ay, H⟩ := H; replace H : (if Ap = true then (laws_eqWorkSheetS.l0 k1 l0 l1 (wrap64 (Aa + 1))) else (some false)) = some r := H; have A7 := Aside0.mk Ay; clear Ay
       by_cases c8 : Ap = true
       ·subst c8
        have H1 : (laws_eqWorkSheetS.l0 k1 l0 l1 (wrap64 (Aa + 1))) = some r := by rw [if_pos rfl] at H; exact H
        clear H; have H := H1; clear H1; have H' := Aside0.mk H; clear H
        try go_wp2
        replace HB := aM (below_drew1 HB.out); have Al : 0 ≤ (Aa : Int) := of_decide_eq_true Z2; have Am : Aa < (l0.length : Int) := of_decide_eq_true Z2; obtain ⟨ad118, e118, Ab, Ac, Ad, Ae, Af⟩ := at_T48 Aw.out Aa Al Am; have hw118_4 := Af; have hw118_3 := Ae; have hw118_2 := Ad; have hw118_1 := Ac; have hw118_0 := Ab; cases e118; replace Ab := (HB.out.cell (World.block_lt_of_cell? w _ Ab)).trans Ab; replace Ac := (HB.out.cell (World.block_lt_of_cell? w _ Ac)).trans Ac; replace Ad := (HB.out.cell (World.block_lt_of_cell? w _ Ad)).trans Ad; replace Ae := (HB.out.cell (World.block_lt_of_cell? w _ Ae)).trans Ae; replace Af := (HB.out.cell (World.block_lt_of_cell? w _ Af)).trans Af; replace Al := eq_true Al; replace Am := eq_true Am; have An : 0 ≤ (Aa : Int) := of_decide_eq_true Z2; have Ao : Aa < (l1.length : Int) := of_decide_eq_true Z2; obtain ⟨ad119, e119, Ag, Ah, Ai, Aj, Ak⟩ := at_T48 Ax.out Aa An Ao; have hw119_4 := Ak; have hw119_3 := Aj; have hw119_2 := Ai; have hw119_1 := Ah; have hw119_0 := Ag; cases e119; replace Ag := (HB.out.cell (World.block_lt_of_cell? w _ Ag)).trans Ag; replace Ah := (HB.out.cell (World.block_lt_of_cell? w _ Ah)).trans Ah; replace Ai := (HB.out.cell (World.block_lt_of_cell? w _ Ai)).trans Ai; replace Aj := (HB.out.cell (World.block_lt_of_cell? w _ Aj)).trans Aj; replace Ak := (HB.out.cell (World.block_lt_of_cell? w _ Ak)).trans Ak; replace An := eq_true An; replace Ao := eq_true Ao; refine start_ (n := 10) (S := fun w' => w'.cell? (ad118.add ((Aa).toNat * 5)) = some (.int .i64 ((rd_T48 l0 Aa).f0)) ∧ w'.cell? ⟨(ad118.add ((Aa).toNat * 5)).block, (ad118.add ((Aa).toNat * 5)).off + 1, none⟩ = some (.int .i64 ((rd_T48 l0 Aa).f1)) ∧ w'.cell? ⟨(ad118.add ((Aa).toNat * 5)).block, (ad118.add ((Aa).toNat * 5)).off + 2, none⟩ = some (.int .i64 ((rd_T48 l0 Aa).f2)) ∧ w'.cell? ⟨(ad118.add ((Aa).toNat * 5)).block, (ad118.add ((Aa).toNat * 5)).off + 3, none⟩ = some (.int .i64 ((rd_T48 l0 Aa).f3)) ∧ w'.cell? ⟨(ad118.add ((Aa).toNat * 5)).block, (ad118.add ((Aa).toNat * 5)).off + 4, none⟩ = some (.int .i64 ((rd_T48 l0 Aa).f4)) ∧ w'.cell? (ad119.add ((Aa).toNat * 5)) = some (.int .i64 ((rd_T48 l1 Aa).f0)) ∧ w'.cell? ⟨(ad119.add ((Aa).toNat * 5)).block, (ad119.add ((Aa).toNat * 5)).off + 1, none⟩ = some (.int .i64 ((rd_T48 l1 Aa).f1)) ∧ w'.cell? ⟨(ad119.add ((Aa).toNat * 5)).block, (ad119.add ((Aa).toNat * 5)).off + 2, none⟩ = some (.int .i64 ((rd_T48 l1 Aa).f2)) ∧ w'.cell? ⟨(ad119.add ((Aa).toNat * 5)).block, (ad119.add ((Aa).toNat * 5)).off + 3, none⟩ = some (.int .i64 ((rd_T48 l1 Aa).f3)) ∧ w'.cell? ⟨(ad119.add ((Aa).toNat * 5)).block, (ad119.add ((Aa).toNat * 5)).off + 4, none⟩ = some (.int .i64 ((rd_T48 l1 Aa).f4))) (ds := []) #[false, false, false, false, false, false, false, false, false, false] Z6 rfl rfl ⟨((HB.out.cell (World.block_lt_of_cell? w _ hw118_0)).trans hw118_0), ((HB.out.cell (World.block_lt_of_cell? w _ hw118_1)).trans hw118_1), ((HB.out.cell (World.block_lt_of_cell? w _ hw118_2)).trans hw118_2), ((HB.out.cell (World.block_lt_of_cell? w _ hw118_3)).trans hw118_3), ((HB.out.cell (World.block_lt_of_cell? w _ hw118_4)).trans hw118_4), ((HB.out.cell (World.block_lt_of_cell? w _ hw119_0)).trans hw119_0), ((HB.out.cell (World.block_lt_of_cell? w _ hw119_1)).trans hw119_1), ((HB.out.cell (World.block_lt_of_cell? w _ hw119_2)).trans hw119_2), ((HB.out.cell (World.block_lt_of_cell? w _ hw119_3)).trans hw119_3), ((HB.out.cell (World.block_lt_of_cell? w _ hw119_4)).trans hw119_4)⟩ (fun hHeld => ?_); refine with_tabW laws_eqWorkSheetS.tab6 laws_eqWorkSheetS.bits6 (fun HT_ HW_ => ?_)
        generalize wr.drew = w9 at HB Ab Ac Ad Ae Af Ag Ah Ai Aj Ak hHeld ⊢
        refine puR 0 17 #[true, false, false, false, false, false, false, false, false, false] HT_ rfl rfl ?_; refine puR 1 18 #[true, true, false, false, false, false, false, false, false, false] HT_ rfl rfl ?_; refine puR 2 19 #[true, true, true, false, false, false, false, false, false, false] HT_ rfl rfl ?_; refine puR 4 21 #[true, true, true, false, true, false, false, false, false, false] HT_ rfl rfl ?_; refine puR 5 22 #[true, true, true, false, true, true, false, false, false, false] HT_ rfl rfl ?_; refine puR 6 23 #[true, true, true, false, true, true, true, false, false, false] HT_ rfl rfl ?_; refine taR 3 20 #[true, true, true, true, true, true, true, false, false, false] HT_ HW_ hHeld rfl rfl ?_; refine taR 7 24 #[true, true, true, true, true, true, true, true, false, false] HT_ HW_ hHeld rfl rfl ?_; refine one_ (i := 8) (N := some 25) #[true, true, true, true, true, true, true, true, true, false] rfl rfl (one_of HT_.out Z6) (by decide) (fun K hK => ?_); refine goes_ Try.func41 Z6 rfl #[.agg #[.int .i64 ((rd_T48 l0 Aa).f0), .int .i64 ((rd_T48 l0 Aa).f1), .int .i64 ((rd_T48 l0 Aa).f2), .int .i64 ((rd_T48 l0 Aa).f3), .int .i64 ((rd_T48 l0 Aa).f4)], .agg #[.int .i64 ((rd_T48 l1 Aa).f0), .int .i64 ((rd_T48 l1 Aa).f1), .int .i64 ((rd_T48 l1 Aa).f2), .int .i64 ((rd_T48 l1 Aa).f3), .int .i64 ((rd_T48 l1 Aa).f4)]] (by rfl) rfl rfl Z15 ?_; (with_reducible refine (laws_eqWorkSheet.calls ((rd_T48 l0 Aa).f0) ((rd_T48 l0 Aa).f1) ((rd_T48 l0 Aa).f2) ((rd_T48 l0 Aa).f3) ((rd_T48 l0 Aa).f4) ((rd_T48 l1 Aa).f0) ((rd_T48 l1 Aa).f1) ((rd_T48 l1 Aa).f2) ((rd_T48 l1 Aa).f3) ((rd_T48 l1 Aa).f4) true _ A7.out).mono ?_); rintro e Ba ⟨rfl, hb⟩; refine ⟨_, rfl, ?_⟩; replace HB := hbS Z0 hb; (try clear hb); (try clear hb2); (try clear hk); (try clear hi); refine hK.out _ _ Z11 (fun hHeld => ?_); clear hK K; refine noR 25 ?_; refine puR 9 26 #[true, true, true, true, true, true, true, true, true, true] HT_ rfl rfl ?_; refine done_ (done_of HT_.out Z6) ?_
        try go_wp2
        go_roundg k1
        case measure => have := HK1.out; omega
        case rel => exact ⟨(wrap64 (Aa + 1)), Z3, H', ⟨Z39⟩, ⟨Z0⟩⟩
       ·replace c8 := Bool.eq_false_iff.mpr c8
        subst c8
        have H1 : (some false) = some r := by rw [if_neg (show ¬ (false = true) by decide)] at H; exact H
        clear H; have H := H1; clear H1; obtain rfl := Option.some.inj H
        try go_wp2
        replace HB := aM (below_drew1 HB.out); have Al : 0 ≤ (Aa : Int) := of_decide_eq_true Z2; have Am : Aa < (l0.length : Int) := of_decide_eq_true Z2; obtain ⟨ad118, e118, Ab, Ac, Ad, Ae, Af⟩ := at_T48 Aw.out Aa Al Am; have hw118_4 := Af; have hw118_3 := Ae; have hw118_2 := Ad; have hw118_1 := Ac; have hw118_0 := Ab; cases e118; replace Ab := (HB.out.cell (World.block_lt_of_cell? w _ Ab)).trans Ab; replace Ac := (HB.out.cell (World.block_lt_of_cell? w _ Ac)).trans Ac; replace Ad := (HB.out.cell (World.block_lt_of_cell? w _ Ad)).trans Ad; replace Ae := (HB.out.cell (World.block_lt_of_cell? w _ Ae)).trans Ae; replace Af := (HB.out.cell (World.block_lt_of_cell? w _ Af)).trans Af; replace Al := eq_true Al; replace Am := eq_true Am; have An : 0 ≤ (Aa : Int) := of_decide_eq_true Z2; have Ao : Aa < (l1.length : Int) := of_decide_eq_true Z2; obtain ⟨ad119, e119, Ag, Ah, Ai, Aj, Ak⟩ := at_T48 Ax.out Aa An Ao; have hw119_4 := Ak; have hw119_3 := Aj; have hw119_2 := Ai; have hw119_1 := Ah; have hw119_0 := Ag; cases e119; replace Ag := (HB.out.cell (World.block_lt_of_cell? w _ Ag)).trans Ag; replace Ah := (HB.out.cell (World.block_lt_of_cell? w _ Ah)).trans Ah; replace Ai := (HB.out.cell (World.block_lt_of_cell? w _ Ai)).trans Ai; replace Aj := (HB.out.cell (World.block_lt_of_cell? w _ Aj)).trans Aj; replace Ak := (HB.out.cell (World.block_lt_of_cell? w _ Ak)).trans Ak; replace An := eq_true An; replace Ao := eq_true Ao; refine start_ (n := 10) (S := fun w' => w'.cell? (ad118.add ((Aa).toNat * 5)) = some (.int .i64 ((rd_T48 l0 Aa).f0)) ∧ w'.cell? ⟨(ad118.add ((Aa).toNat * 5)).block, (ad118.add ((Aa).toNat * 5)).off + 1, none⟩ = some (.int .i64 ((rd_T48 l0 Aa).f1)) ∧ w'.cell? ⟨(ad118.add ((Aa).toNat * 5)).block, (ad118.add ((Aa).toNat * 5)).off + 2, none⟩ = some (.int .i64 ((rd_T48 l0 Aa).f2)) ∧ w'.cell? ⟨(ad118.add ((Aa).toNat * 5)).block, (ad118.add ((Aa).toNat * 5)).off + 3, none⟩ = some (.int .i64 ((rd_T48 l0 Aa).f3)) ∧ w'.cell? ⟨(ad118.add ((Aa).toNat * 5)).block, (ad118.add ((Aa).toNat * 5)).off + 4, none⟩ = some (.int .i64 ((rd_T48 l0 Aa).f4)) ∧ w'.cell? (ad119.add ((Aa).toNat * 5)) = some (.int .i64 ((rd_T48 l1 Aa).f0)) ∧ w'.cell? ⟨(ad119.add ((Aa).toNat * 5)).block, (ad119.add ((Aa).toNat * 5)).off + 1, none⟩ = some (.int .i64 ((rd_T48 l1 Aa).f1)) ∧ w'.cell? ⟨(ad119.add ((Aa).toNat * 5)).block, (ad119.add ((Aa).toNat * 5)).off + 2, none⟩ = some (.int .i64 ((rd_T48 l1 Aa).f2)) ∧ w'.cell? ⟨(ad119.add ((Aa).toNat * 5)).block, (ad119.add ((Aa).toNat * 5)).off + 3, none⟩ = some (.int .i64 ((rd_T48 l1 Aa).f3)) ∧ w'.cell? ⟨(ad119.add ((Aa).toNat * 5)).block, (ad119.add ((Aa).toNat * 5)).off + 4, none⟩ = some (.int .i64 ((rd_T48 l1 Aa).f4))) (ds := []) #[false, false, false, false, false, false, false, false, false, false] Z6 rfl rfl ⟨((HB.out.cell (World.block_lt_of_cell? w _ hw118_0)).trans hw118_0), ((HB.out.cell (World.block_lt_of_cell? w _ hw118_1)).trans hw118_1), ((HB.out.cell (World.block_lt_of_cell? w _ hw118_2)).trans hw118_2), ((HB.out.cell (World.block_lt_of_cell? w _ hw118_3)).trans hw118_3), ((HB.out.cell (World.block_lt_of_cell? w _ hw118_4)).trans hw118_4), ((HB.out.cell (World.block_lt_of_cell? w _ hw119_0)).trans hw119_0), ((HB.out.cell (World.block_lt_of_cell? w _ hw119_1)).trans hw119_1), ((HB.out.cell (World.block_lt_of_cell? w _ hw119_2)).trans hw119_2), ((HB.out.cell (World.block_lt_of_cell? w _ hw119_3)).trans hw119_3), ((HB.out.cell (World.block_lt_of_cell? w _ hw119_4)).trans hw119_4)⟩ (fun hHeld => ?_); refine with_tabW laws_eqWorkSheetS.tab6 laws_eqWorkSheetS.bits6 (fun HT_ HW_ => ?_)
        generalize wr.drew = Bb at HB Ab Ac Ad Ae Af Ag Ah Ai Aj Ak hHeld ⊢
        refine puR 0 17 #[true, false, false, false, false, false, false, false, false, false] HT_ rfl rfl ?_; refine puR 1 18 #[true, true, false, false, false, false, false, false, false, false] HT_ rfl rfl ?_; refine puR 2 19 #[true, true, true, false, false, false, false, false, false, false] HT_ rfl rfl ?_; refine puR 4 21 #[true, true, true, false, true, false, false, false, false, false] HT_ rfl rfl ?_; refine puR 5 22 #[true, true, true, false, true, true, false, false, false, false] HT_ rfl rfl ?_; refine puR 6 23 #[true, true, true, false, true, true, true, false, false, false] HT_ rfl rfl ?_; refine taR 3 20 #[true, true, true, true, true, true, true, false, false, false] HT_ HW_ hHeld rfl rfl ?_; refine taR 7 24 #[true, true, true, true, true, true, true, true, false, false] HT_ HW_ hHeld rfl rfl ?_; refine one_ (i := 8) (N := some 25) #[true, true, true, true, true, true, true, true, true, false] rfl rfl (one_of HT_.out Z6) (by decide) (fun K hK => ?_); refine goes_ Try.func41 Z6 rfl #[.agg #[.int .i64 ((rd_T48 l0 Aa).f0), .int .i64 ((rd_T48 l0 Aa).f1), .int .i64 ((rd_T48 l0 Aa).f2), .int .i64 ((rd_T48 l0 Aa).f3), .int .i64 ((rd_T48 l0 Aa).f4)], .agg #[.int .i64 ((rd_T48 l1 Aa).f0), .int .i64 ((rd_T48 l1 Aa).f1), .int .i64 ((rd_T48 l1 Aa).f2), .int .i64 ((rd_T48 l1 Aa).f3), .int .i64 ((rd_T48 l1 Aa).f4)]] (by rfl) rfl rfl Z15 ?_; (with_reducible refine (laws_eqWorkSheet.calls ((rd_T48 l0 Aa).f0) ((rd_T48 l0 Aa).f1) ((rd_T48 l0 Aa).f2) ((rd_T48 l0 Aa).f3) ((rd_T48 l0 Aa).f4) ((rd_T48 l1 Aa).f0) ((rd_T48 l1 Aa).f1) ((rd_T48 l1 Aa).f2) ((rd_T48 l1 Aa).f3) ((rd_T48 l1 Aa).f4) false _ A7.out).mono ?_); rintro e Bc ⟨rfl, hb⟩; refine ⟨_, rfl, ?_⟩; replace HB := hbS Z0 hb; (try clear hb); (try clear hb2); (try clear hk); (try clear hi); refine hK.out _ _ Z11 (fun hHeld => ?_); clear hK K; refine noR 25 ?_; refine puR 9 26 #[true, true, true, true, true, true, true, true, true, true] HT_ rfl rfl ?_; refine done_ (done_of HT_.out Z6) ?_
        try go_wp2
        go_ret
        exact ⟨Z4, Z0⟩
      ·rw [if_neg c6] at H
       exact absurd H (by simp)
     ·rw [if_neg c5] at H
      exact absurd H (by simp)
    ·rw [if_neg c4] at H
     have c4b0 : decide (Aa < (l0.length : Int)) = false := decide_eq_false c4; clear c4; obtain rfl := Option.some.inj H
     go_wp2
     go_ret
     exact ⟨Z4, Z0⟩
 ·rw [if_neg c3] at H
  have c3b0 : ((l0.length : Int) == (l1.length : Int)) = false := beq_eq_false_iff_ne.mpr c3; have c3b1 : ((l0.length : Int) != (l1.length : Int)) = true := bne_iff_ne.mpr c3
  have c3b2 : (l0.length == l1.length) = false := by first | simpa using c3 | (simp at c3 ⊢; omega)
  obtain rfl := Option.some.inj H
  go_enter Try.func12, Try.ntmps12
  go_wp2
  go_ret
  exact ⟨Z4, Z0⟩
def laws_markWorkSheetS.l0 : Nat → List (S48) → Int → Int → Option (Int × (List (S48)))
 | 0, _, _, _ => none
 | k + 1, x0, x1, x5 => if x5 < (x0.length : Int) then (if 0 ≤ x5 then ((some (x0.set (x5 : Int).toNat (⟨x1, (rd_T48 x0 x5).f1, (rd_T48 x0 x5).f2, (rd_T48 x0 x5).f3, (rd_T48 x0 x5).f4⟩ : S48) : List (S48))).bind fun y121 => ((some (y121.set (x5 : Int).toNat (⟨(rd_T48 y121 x5).f0, wrap64 (x1 + 1), (rd_T48 y121 x5).f2, (rd_T48 y121 x5).f3, (rd_T48 y121 x5).f4⟩ : S48) : List (S48))).bind fun y122 => ((some (y122.set (x5 : Int).toNat (⟨(rd_T48 y122 x5).f0, (rd_T48 y122 x5).f1, wrap64 ((wrap64 (x1 + 1)) + 1), (rd_T48 y122 x5).f3, (rd_T48 y122 x5).f4⟩ : S48) : List (S48))).bind fun y123 => ((some (y123.set (x5 : Int).toNat (⟨(rd_T48 y123 x5).f0, (rd_T48 y123 x5).f1, (rd_T48 y123 x5).f2, wrap64 ((wrap64 ((wrap64 (x1 + 1)) + 1)) + 1), (rd_T48 y123 x5).f4⟩ : S48) : List (S48))).bind fun y124 => (laws_markWorkSheetS.l0 k (y124.set (x5 : Int).toNat (⟨(rd_T48 y124 x5).f0, (rd_T48 y124 x5).f1, (rd_T48 y124 x5).f2, (rd_T48 y124 x5).f3, wrap64 ((wrap64 ((wrap64 ((wrap64 (x1 + 1)) + 1)) + 1)) + 1)⟩ : S48)) (wrap64 ((wrap64 ((wrap64 ((wrap64 ((wrap64 (x1 + 1)) + 1)) + 1)) + 1)) + 1)) (wrap64 (x5 + 1))))))) else (none)) else (some (x1, x0))
def laws_markWorkSheetS.f (k : Nat) (l0 : List (S48)) (a1 : Int) : Option (Int × (List (S48))) := laws_markWorkSheetS.l0 k l0 a1 0
theorem laws_markWorkSheetS.calls (k : Nat) (P0_ : Nat → Prop) (u9000_ : Value) (l0 : List (S48)) (a1 : Int) (r1 : Int) (r2 : List (S48)) (w0 w : World) (hB : Below w0.heap.size w0 w) (De : Kd.R k48 48 w w0.heap.size P0_ u9000_ l0) (h : laws_markWorkSheetS.f k l0 a1 = some (r1, r2)) :
  Calls Try.prog 13 #[u9000_, .int .i64 a1] w fun e w' => e = .returned (.int .i64 r1) ∧ Kd.R k48 48 w' w0.heap.size (fun k_ => (P0_ k_ ∨ w.heap.size ≤ k_)) u9000_ r2 ∧ Below w0.heap.size w0 w' ∧ Kept w w' (fun k_ => P0_ k_) := by
 have Df := aM (show Kd.R k48 48 w w0.heap.size (fun k_ => (P0_ k_ ∨ w.heap.size ≤ k_)) u9000_ l0 from Kd.R_mono De (fun k_ hk => (.inl hk))); have HK := aM (Kept.refl w (fun k_ => P0_ k_)); have Dj := Aside0.mk hB.size; have HB := Aside0.mk hB; clear hB; have H : (laws_markWorkSheetS.l0 k l0 a1 0) = some (r1, r2) := h; clear h; have H' := Aside0.mk H; clear H
 go_enter Try.func13, Try.ntmps13
 go_wp2
 go_loopg [1, 5] k (fun kq v1 v5 w' => ∃ (Ab : List (S48)) (Ac : Int) (Aa : Int), v1 = .int .i64 Ac ∧ v5 = .int .i64 Aa ∧ Aside0 (laws_markWorkSheetS.l0 kq Ab Ac Aa = some (r1, r2)) ∧ Aside0 (kq ≤ k) ∧ Aside0 (Kd.R k48 48 w' w0.heap.size (fun k_ => (P0_ k_ ∨ w.heap.size ≤ k_)) u9000_ Ab) ∧ Aside0 (Kept w w' (fun k_ => P0_ k_)) ∧ Aside0 (Below w0.heap.size w0 w'))
 case atStart => exact ⟨(l0), (a1), (0), Z3, Z3, H', ⟨Nat.le_refl _⟩, ⟨by (with_reducible repeat (first | apply Kd.R_alloc | apply Kd.R_drewN | apply Kd.R_drew)); exact Df.out⟩, ⟨Z10⟩, ⟨Z0⟩⟩
 case round =>
  clear H'; (try clear c1); (try clear p2); obtain ⟨Ab, Ac, Aa, rfl, rfl, HA, HK1, Af, HK, HB⟩ := hrel; cases gk with
  | zero => exact absurd HA.out (by simp [laws_markWorkSheetS.l0])
  | succ k1 =>
   have H := HA.out; clear HA
   simp only [laws_markWorkSheetS.l0] at H
   by_cases c3 : Aa < (Ab.length : Int)
   ·rw [if_pos c3] at H
    have c3b0 : decide (Aa < (Ab.length : Int)) = true := decide_eq_true c3; clear c3
    by_cases c4 : 0 ≤ Aa
    ·rw [if_pos c4] at H
     have c4b0 : decide (0 ≤ Aa) = true := decide_eq_true c4; clear c4; obtain ⟨Ai, Ak⟩ : ∃ y_ : List (S48), y_ = (Ab.set (Aa : Int).toNat (⟨Ac, (rd_T48 Ab Aa).f1, (rd_T48 Ab Aa).f2, (rd_T48 Ab Aa).f3, (rd_T48 Ab Aa).f4⟩ : S48)) := ⟨_, rfl⟩
     replace H : ((some (Ai.set (Aa : Int).toNat (⟨(rd_T48 Ai Aa).f0, wrap64 (Ac + 1), (rd_T48 Ai Aa).f2, (rd_T48 Ai Aa).f3, (rd_T48 Ai Aa).f4⟩ : S48) : List (S48))).bind fun Ah => ((some (Ah.set (Aa : Int).toNat (⟨(rd_T48 Ah Aa).f0, (rd_T48 Ah Aa).f1, wrap64 ((wrap64 (Ac + 1)) + 1), (rd_T48 Ah Aa).f3, (rd_T48 Ah Aa).f4⟩ : S48) : List (S48))).bind fun Ae => ((some (Ae.set (Aa : Int).toNat (⟨(rd_T48 Ae Aa).f0, (rd_T48 Ae Aa).f1, (rd_T48 Ae Aa).f2, wrap64 ((wrap64 ((wrap64 (Ac + 1)) + 1)) + 1), (rd_T48 Ae Aa).f4⟩ : S48) : List (S48))).bind fun Ad => (laws_markWorkSheetS.l0 k1 (Ad.set (Aa : Int).toNat (⟨(rd_T48 Ad Aa).f0, (rd_T48 Ad Aa).f1, (rd_T48 Ad Aa).f2, (rd_T48 Ad Aa).f3, wrap64 ((wrap64 ((wrap64 ((wrap64 (Ac + 1)) + 1)) + 1)) + 1)⟩ : S48)) (wrap64 ((wrap64 ((wrap64 ((wrap64 ((wrap64 (Ac + 1)) + 1)) + 1)) + 1)) + 1)) (wrap64 (Aa + 1)))))) = some (r1, r2) := by first | (rw [Ak]; with_reducible exact H) | (have H2_ := (Option.bind_some _ _).symm.trans H; rw [Ak]; with_reducible exact H2_) | (have H2_ := (Option.bind_some _ _).symm.trans H; with_reducible exact H2_) | with_reducible exact H | (rw [Ak]; exact H) | exact H
     have Bl := Aside0.mk Ak; clear Ak; obtain ⟨Ah, Al⟩ : ∃ y_ : List (S48), y_ = (Ai.set (Aa : Int).toNat (⟨(rd_T48 Ai Aa).f0, wrap64 (Ac + 1), (rd_T48 Ai Aa).f2, (rd_T48 Ai Aa).f3, (rd_T48 Ai Aa).f4⟩ : S48)) := ⟨_, rfl⟩
     replace H : ((some (Ah.set (Aa : Int).toNat (⟨(rd_T48 Ah Aa).f0, (rd_T48 Ah Aa).f1, wrap64 ((wrap64 (Ac + 1)) + 1), (rd_T48 Ah Aa).f3, (rd_T48 Ah Aa).f4⟩ : S48) : List (S48))).bind fun Ae => ((some (Ae.set (Aa : Int).toNat (⟨(rd_T48 Ae Aa).f0, (rd_T48 Ae Aa).f1, (rd_T48 Ae Aa).f2, wrap64 ((wrap64 ((wrap64 (Ac + 1)) + 1)) + 1), (rd_T48 Ae Aa).f4⟩ : S48) : List (S48))).bind fun Ad => (laws_markWorkSheetS.l0 k1 (Ad.set (Aa : Int).toNat (⟨(rd_T48 Ad Aa).f0, (rd_T48 Ad Aa).f1, (rd_T48 Ad Aa).f2, (rd_T48 Ad Aa).f3, wrap64 ((wrap64 ((wrap64 ((wrap64 (Ac + 1)) + 1)) + 1)) + 1)⟩ : S48)) (wrap64 ((wrap64 ((wrap64 ((wrap64 ((wrap64 (Ac + 1)) + 1)) + 1)) + 1)) + 1)) (wrap64 (Aa + 1))))) = some (r1, r2) := by first | (rw [Al]; with_reducible exact H) | (have H2_ := (Option.bind_some _ _).symm.trans H; rw [Al]; with_reducible exact H2_) | (have H2_ := (Option.bind_some _ _).symm.trans H; with_reducible exact H2_) | with_reducible exact H | (rw [Al]; exact H) | exact H
     have Bm := Aside0.mk Al; clear Al; obtain ⟨Ae, Am⟩ : ∃ y_ : List (S48), y_ = (Ah.set (Aa : Int).toNat (⟨(rd_T48 Ah Aa).f0, (rd_T48 Ah Aa).f1, wrap64 ((wrap64 (Ac + 1)) + 1), (rd_T48 Ah Aa).f3, (rd_T48 Ah Aa).f4⟩ : S48)) := ⟨_, rfl⟩
     replace H : ((some (Ae.set (Aa : Int).toNat (⟨(rd_T48 Ae Aa).f0, (rd_T48 Ae Aa).f1, (rd_T48 Ae Aa).f2, wrap64 ((wrap64 ((wrap64 (Ac + 1)) + 1)) + 1), (rd_T48 Ae Aa).f4⟩ : S48) : List (S48))).bind fun Ad => (laws_markWorkSheetS.l0 k1 (Ad.set (Aa : Int).toNat (⟨(rd_T48 Ad Aa).f0, (rd_T48 Ad Aa).f1, (rd_T48 Ad Aa).f2, (rd_T48 Ad Aa).f3, wrap64 ((wrap64 ((wrap64 ((wrap64 (Ac + 1)) + 1)) + 1)) + 1)⟩ : S48)) (wrap64 ((wrap64 ((wrap64 ((wrap64 ((wrap64 (Ac + 1)) + 1)) + 1)) + 1)) + 1)) (wrap64 (Aa + 1)))) = some (r1, r2) := by first | (rw [Am]; with_reducible exact H) | (have H2_ := (Option.bind_some _ _).symm.trans H; rw [Am]; with_reducible exact H2_) | (have H2_ := (Option.bind_some _ _).symm.trans H; with_reducible exact H2_) | with_reducible exact H | (rw [Am]; exact H) | exact H
     have Bn := Aside0.mk Am; clear Am; obtain ⟨Ad, An⟩ : ∃ y_ : List (S48), y_ = (Ae.set (Aa : Int).toNat (⟨(rd_T48 Ae Aa).f0, (rd_T48 Ae Aa).f1, (rd_T48 Ae Aa).f2, wrap64 ((wrap64 ((wrap64 (Ac + 1)) + 1)) + 1), (rd_T48 Ae Aa).f4⟩ : S48)) := ⟨_, rfl⟩
     replace H : (laws_markWorkSheetS.l0 k1 (Ad.set (Aa : Int).toNat (⟨(rd_T48 Ad Aa).f0, (rd_T48 Ad Aa).f1, (rd_T48 Ad Aa).f2, (rd_T48 Ad Aa).f3, wrap64 ((wrap64 ((wrap64 ((wrap64 (Ac + 1)) + 1)) + 1)) + 1)⟩ : S48)) (wrap64 ((wrap64 ((wrap64 ((wrap64 ((wrap64 (Ac + 1)) + 1)) + 1)) + 1)) + 1)) (wrap64 (Aa + 1))) = some (r1, r2) := by first | (rw [An]; with_reducible exact H) | (have H2_ := (Option.bind_some _ _).symm.trans H; rw [An]; with_reducible exact H2_) | (have H2_ := (Option.bind_some _ _).symm.trans H; with_reducible exact H2_) | with_reducible exact H | (rw [An]; exact H) | exact H
     have Bo := Aside0.mk An; clear An; obtain ⟨Av, Ao⟩ : ∃ y_ : List (S48), y_ = (Ad.set (Aa : Int).toNat (⟨(rd_T48 Ad Aa).f0, (rd_T48 Ad Aa).f1, (rd_T48 Ad Aa).f2, (rd_T48 Ad Aa).f3, wrap64 ((wrap64 ((wrap64 ((wrap64 (Ac + 1)) + 1)) + 1)) + 1)⟩ : S48)) := ⟨_, rfl⟩
     replace H : (laws_markWorkSheetS.l0 k1 Av (wrap64 ((wrap64 ((wrap64 ((wrap64 ((wrap64 (Ac + 1)) + 1)) + 1)) + 1)) + 1)) (wrap64 (Aa + 1))) = some (r1, r2) := by first | (rw [Ao]; with_reducible exact H) | (have H2_ := (Option.bind_some _ _).symm.trans H; rw [Ao]; with_reducible exact H2_) | (have H2_ := (Option.bind_some _ _).symm.trans H; with_reducible exact H2_) | with_reducible exact H | (rw [Ao]; exact H) | exact H
     have Bp := Aside0.mk Ao; clear Ao; have H' := Aside0.mk H; clear H; obtain ⟨Dg, Aj, Br⟩ := Kd.R_slice Af.out; subst Br; have p5 : 0 ≤ (Aa : Int) := of_decide_eq_true Z2; have q5 : (Aa : Int) < ((Ab.length : Int) : Int) := of_decide_eq_true Z2; obtain ⟨Ag, Dk, Bu, Bv, gl5, cl5, HG5⟩ := Kd.R_form Af.out (by omega)
     (first | cases Bu | (injection Bu with ea_ en_ ec_; (first | subst ea_ | (injection ea_ with ea_; subst ea_)); subst ec_; clear en_))
     have Bq := Aside0.mk Bv; have Dl := Aside0.mk HG5; clear Bv gl5 HG5; have Bw := aM (show (P0_ Ag ∨ w.heap.size ≤ Ag) from (Af.out.1 _ rfl)); obtain ⟨ce5, hcl5, hM5, hcc5, hfr5⟩ := Kd.R_elem Af.out z48 (Aa : Int) p5 q5; obtain rfl := k48_openM hM5; have Bx : wr.cell? ⟨Ag, (Aa : Int).toNat * 5, none⟩ = some (.int .i64 ((rd_T48 Ab Aa).f0)) := hcc5 0 _ rfl; have Bz : wr.cell? ⟨Ag, (Aa : Int).toNat * 5 + 1, none⟩ = some (.int .i64 ((rd_T48 Ab Aa).f1)) := hcc5 1 _ rfl; have B0 : wr.cell? ⟨Ag, (Aa : Int).toNat * 5 + 2, none⟩ = some (.int .i64 ((rd_T48 Ab Aa).f2)) := hcc5 2 _ rfl; have B1 : wr.cell? ⟨Ag, (Aa : Int).toNat * 5 + 3, none⟩ = some (.int .i64 ((rd_T48 Ab Aa).f3)) := hcc5 3 _ rfl; have B2 : wr.cell? ⟨Ag, (Aa : Int).toNat * 5 + 4, none⟩ = some (.int .i64 ((rd_T48 Ab Aa).f4)) := hcc5 4 _ rfl; have B3 : wr.frozen? ⟨Ag, (Aa : Int).toNat * 5, none⟩ = false := hfr5 0; have B5 : wr.frozen? ⟨Ag, (Aa : Int).toNat * 5 + 1, none⟩ = false := hfr5 1; have B7 : wr.frozen? ⟨Ag, (Aa : Int).toNat * 5 + 2, none⟩ = false := hfr5 2; have B8 : wr.frozen? ⟨Ag, (Aa : Int).toNat * 5 + 3, none⟩ = false := hfr5 3; have B9 : wr.frozen? ⟨Ag, (Aa : Int).toNat * 5 + 4, none⟩ = false := hfr5 4; clear hcl5 hcc5 hfr5 hM5; replace p5 := eq_true p5; replace q5 := eq_true q5; have HX11 := aM (show Kd.R k48 48 wr w0.heap.size (fun k_ => (P0_ k_ ∨ w.heap.size ≤ k_)) (.slice (some ⟨Ag, 0, none⟩) Ab.length Aj) Ab from Z7); obtain ⟨ce11, hcl11, hM11, hcc11, hfr11⟩ := Kd.R_elem HX11.out z48 (Aa : Int) (of_decide_eq_true Z2) Z63; obtain rfl := k48_openM hM11; have Aw := Kd.R_seg HX11.out (Aa : Int) (of_decide_eq_true Z2) Z63 (seg := [.int .i64 Ac]) (j := 0) hcl11 hcc11 (show 1 ≤ 5 from by decide) (x' := (⟨Ac, (rd_T48 Ab Aa).f1, (rd_T48 Ab Aa).f2, (rd_T48 Ab Aa).f3, (rd_T48 Ab Aa).f4⟩ : S48)) (k48_mkM _ _ _ (⟨Ac, (rd_T48 Ab Aa).f1, (rd_T48 Ab Aa).f2, (rd_T48 Ab Aa).f3, (rd_T48 Ab Aa).f4⟩ : S48) ) (fun _ hk => hk); have Ax := hcc11 0 _ rfl
     (try simp only [show (k48).sz = 5 from rfl, Nat.mul_one, Nat.add_zero] at Ax)
     have Ay := hfr11 0
     (try simp only [show (k48).sz = 5 from rfl, Nat.mul_one, Nat.add_zero] at Ay)
     clear hcl11 hcc11 hfr11 hM11
     go_wp2_with (first | ((with_reducible refine gate_store (t := 3) (p := 16) rfl ?_); refine store_event (t := 3) (p := 16) (v := ?vo_w12) (w1 := (wr.setCell ⟨Ag, (Aa : Int).toNat * 5, none⟩ (.int .i64 Ac))) ?hg ?ho ?hn ?hr ?_; (case ho => rfl); (case hg => rfl); (case hn => rfl); (case hr => first | (go_simp; done) | (go_simp; rfl)); intro Ap hw; have hg : wr.grownBy Ap (some Ag) := (by rw [hw]; exact Aw.2); have hp_ : Kd.R k48 48 Ap w0.heap.size (fun k_ => (P0_ k_ ∨ w.heap.size ≤ k_)) (.slice (some ⟨Ag, 0, none⟩) Ab.length Aj) Ai := (by rw [hw, Bl.out]; exact Aw.1); clear Aw; replace HB := aM ((Z51 : Below w0.heap.size w0 Ap)); replace HK := aM (Kept.of_grown (S := (fun k_ => P0_ k_)) hg Z10 (fun k_ e_ => (Af.out.1 k_ e_))); replace Af := aM (hp_); clear hg hw hp_; have p6 : 0 ≤ (Aa : Int) := of_decide_eq_true Z2; have q6 : (Aa : Int) < ((Ab.length : Int) : Int) := of_decide_eq_true Z2; obtain ⟨ce6, hcl6, hM6, hcc6, hfr6⟩ := Kd.R_elem Af.out z48 (Aa : Int) p6 q6; obtain rfl := k48_openM hM6; have Ca : Ap.cell? ⟨Ag, (Aa : Int).toNat * 5, none⟩ = some (.int .i64 ((rd_T48 Ai Aa).f0)) := hcc6 0 _ rfl; have Cb : Ap.cell? ⟨Ag, (Aa : Int).toNat * 5 + 1, none⟩ = some (.int .i64 ((rd_T48 Ai Aa).f1)) := hcc6 1 _ rfl; have Cc : Ap.cell? ⟨Ag, (Aa : Int).toNat * 5 + 2, none⟩ = some (.int .i64 ((rd_T48 Ai Aa).f2)) := hcc6 2 _ rfl; have Cd : Ap.cell? ⟨Ag, (Aa : Int).toNat * 5 + 3, none⟩ = some (.int .i64 ((rd_T48 Ai Aa).f3)) := hcc6 3 _ rfl; have Ce : Ap.cell? ⟨Ag, (Aa : Int).toNat * 5 + 4, none⟩ = some (.int .i64 ((rd_T48 Ai Aa).f4)) := hcc6 4 _ rfl; have Cf : Ap.frozen? ⟨Ag, (Aa : Int).toNat * 5, none⟩ = false := hfr6 0; have Cg : Ap.frozen? ⟨Ag, (Aa : Int).toNat * 5 + 1, none⟩ = false := hfr6 1; have Ch : Ap.frozen? ⟨Ag, (Aa : Int).toNat * 5 + 2, none⟩ = false := hfr6 2; have Ci : Ap.frozen? ⟨Ag, (Aa : Int).toNat * 5 + 3, none⟩ = false := hfr6 3; have Cj : Ap.frozen? ⟨Ag, (Aa : Int).toNat * 5 + 4, none⟩ = false := hfr6 4; clear hcl6 hcc6 hfr6 hM6; replace p6 := eq_true p6; replace q6 := eq_true q6; have HX13 := aM (show Kd.R k48 48 Ap w0.heap.size (fun k_ => (P0_ k_ ∨ w.heap.size ≤ k_)) (.slice (some ⟨Ag, 0, none⟩) Ab.length Aj) Ai from Z7); obtain ⟨ce13, hcl13, hM13, hcc13, hfr13⟩ := Kd.R_elem HX13.out z48 (Aa : Int) (of_decide_eq_true Z2) Z63; obtain rfl := k48_openM hM13; have Az := Kd.R_seg HX13.out (Aa : Int) (of_decide_eq_true Z2) Z63 (seg := [.int .i64 (wrap64 (Ac + 1))]) (j := 1) hcl13 hcc13 (show 2 ≤ 5 from by decide) (x' := (⟨(rd_T48 Ai Aa).f0, wrap64 (Ac + 1), (rd_T48 Ai Aa).f2, (rd_T48 Ai Aa).f3, (rd_T48 Ai Aa).f4⟩ : S48)) (k48_mkM _ _ _ (⟨(rd_T48 Ai Aa).f0, wrap64 (Ac + 1), (rd_T48 Ai Aa).f2, (rd_T48 Ai Aa).f3, (rd_T48 Ai Aa).f4⟩ : S48) ) (fun _ hk => hk); have A3 := hcc13 1 _ rfl; (try simp only [show (k48).sz = 5 from rfl, Nat.mul_one, Nat.add_zero] at A3); have Ba := hfr13 1; (try simp only [show (k48).sz = 5 from rfl, Nat.mul_one, Nat.add_zero] at Ba); clear hcl13 hcc13 hfr13 hM13) | ((with_reducible refine gate_store (t := 3) (p := 23) rfl ?_); refine store_event (t := 3) (p := 23) (v := ?vo_w14) (w1 := (Ap.setCell ⟨Ag, (Aa : Int).toNat * 5 + 1, none⟩ (.int .i64 (wrap64 (Ac + 1))))) ?hg ?ho ?hn ?hr ?_; (case ho => rfl); (case hg => rfl); (case hn => rfl); (case hr => first | (go_simp; done) | (go_simp; rfl)); intro Aq hw; have hg : Ap.grownBy Aq (some Ag) := (by rw [hw]; exact Az.2); have hp_ : Kd.R k48 48 Aq w0.heap.size (fun k_ => (P0_ k_ ∨ w.heap.size ≤ k_)) (.slice (some ⟨Ag, 0, none⟩) Ab.length Aj) Ah := (by rw [hw, Bm.out]; exact Az.1); clear Az; replace HB := aM ((Z51 : Below w0.heap.size w0 Aq)); replace HK := aM (Kept.of_grown (S := (fun k_ => P0_ k_)) hg Z10 (fun k_ e_ => (Af.out.1 k_ e_))); replace Af := aM (hp_); clear hg hw hp_; have p7 : 0 ≤ (Aa : Int) := of_decide_eq_true Z2; have q7 : (Aa : Int) < ((Ab.length : Int) : Int) := of_decide_eq_true Z2; obtain ⟨ce7, hcl7, hM7, hcc7, hfr7⟩ := Kd.R_elem Af.out z48 (Aa : Int) p7 q7; obtain rfl := k48_openM hM7; have Ck : Aq.cell? ⟨Ag, (Aa : Int).toNat * 5, none⟩ = some (.int .i64 ((rd_T48 Ah Aa).f0)) := hcc7 0 _ rfl; have Cl : Aq.cell? ⟨Ag, (Aa : Int).toNat * 5 + 1, none⟩ = some (.int .i64 ((rd_T48 Ah Aa).f1)) := hcc7 1 _ rfl; have Cm : Aq.cell? ⟨Ag, (Aa : Int).toNat * 5 + 2, none⟩ = some (.int .i64 ((rd_T48 Ah Aa).f2)) := hcc7 2 _ rfl; have Cn : Aq.cell? ⟨Ag, (Aa : Int).toNat * 5 + 3, none⟩ = some (.int .i64 ((rd_T48 Ah Aa).f3)) := hcc7 3 _ rfl; have Co : Aq.cell? ⟨Ag, (Aa : Int).toNat * 5 + 4, none⟩ = some (.int .i64 ((rd_T48 Ah Aa).f4)) := hcc7 4 _ rfl; have Cp : Aq.frozen? ⟨Ag, (Aa : Int).toNat * 5, none⟩ = false := hfr7 0; have Cq : Aq.frozen? ⟨Ag, (Aa : Int).toNat * 5 + 1, none⟩ = false := hfr7 1; have Cr : Aq.frozen? ⟨Ag, (Aa : Int).toNat * 5 + 2, none⟩ = false := hfr7 2; have Cs : Aq.frozen? ⟨Ag, (Aa : Int).toNat * 5 + 3, none⟩ = false := hfr7 3; have Ct : Aq.frozen? ⟨Ag, (Aa : Int).toNat * 5 + 4, none⟩ = false := hfr7 4; clear hcl7 hcc7 hfr7 hM7; replace p7 := eq_true p7; replace q7 := eq_true q7; have HX15 := aM (show Kd.R k48 48 Aq w0.heap.size (fun k_ => (P0_ k_ ∨ w.heap.size ≤ k_)) (.slice (some ⟨Ag, 0, none⟩) Ab.length Aj) Ah from Z7); obtain ⟨ce15, hcl15, hM15, hcc15, hfr15⟩ := Kd.R_elem HX15.out z48 (Aa : Int) (of_decide_eq_true Z2) Z63; obtain rfl := k48_openM hM15; have Bb := Kd.R_seg HX15.out (Aa : Int) (of_decide_eq_true Z2) Z63 (seg := [.int .i64 (wrap64 ((wrap64 (Ac + 1)) + 1))]) (j := 2) hcl15 hcc15 (show 3 ≤ 5 from by decide) (x' := (⟨(rd_T48 Ah Aa).f0, (rd_T48 Ah Aa).f1, wrap64 ((wrap64 (Ac + 1)) + 1), (rd_T48 Ah Aa).f3, (rd_T48 Ah Aa).f4⟩ : S48)) (k48_mkM _ _ _ (⟨(rd_T48 Ah Aa).f0, (rd_T48 Ah Aa).f1, wrap64 ((wrap64 (Ac + 1)) + 1), (rd_T48 Ah Aa).f3, (rd_T48 Ah Aa).f4⟩ : S48) ) (fun _ hk => hk); have Bc := hcc15 2 _ rfl; (try simp only [show (k48).sz = 5 from rfl, Nat.mul_one, Nat.add_zero] at Bc); have Bd := hfr15 2; (try simp only [show (k48).sz = 5 from rfl, Nat.mul_one, Nat.add_zero] at Bd); clear hcl15 hcc15 hfr15 hM15) | ((with_reducible refine gate_store (t := 3) (p := 30) rfl ?_); refine store_event (t := 3) (p := 30) (v := ?vo_w16) (w1 := (Aq.setCell ⟨Ag, (Aa : Int).toNat * 5 + 2, none⟩ (.int .i64 (wrap64 ((wrap64 (Ac + 1)) + 1))))) ?hg ?ho ?hn ?hr ?_; (case ho => rfl); (case hg => rfl); (case hn => rfl); (case hr => first | (go_simp; done) | (go_simp; rfl)); intro Ar hw; have hg : Aq.grownBy Ar (some Ag) := (by rw [hw]; exact Bb.2); have hp_ : Kd.R k48 48 Ar w0.heap.size (fun k_ => (P0_ k_ ∨ w.heap.size ≤ k_)) (.slice (some ⟨Ag, 0, none⟩) Ab.length Aj) Ae := (by rw [hw, Bn.out]; exact Bb.1); clear Bb; replace HB := aM ((Z51 : Below w0.heap.size w0 Ar)); replace HK := aM (Kept.of_grown (S := (fun k_ => P0_ k_)) hg Z10 (fun k_ e_ => (Af.out.1 k_ e_))); replace Af := aM (hp_); clear hg hw hp_; have p8 : 0 ≤ (Aa : Int) := of_decide_eq_true Z2; have q8 : (Aa : Int) < ((Ab.length : Int) : Int) := of_decide_eq_true Z2; obtain ⟨ce8, hcl8, hM8, hcc8, hfr8⟩ := Kd.R_elem Af.out z48 (Aa : Int) p8 q8; obtain rfl := k48_openM hM8; have Cu : Ar.cell? ⟨Ag, (Aa : Int).toNat * 5, none⟩ = some (.int .i64 ((rd_T48 Ae Aa).f0)) := hcc8 0 _ rfl; have Cv : Ar.cell? ⟨Ag, (Aa : Int).toNat * 5 + 1, none⟩ = some (.int .i64 ((rd_T48 Ae Aa).f1)) := hcc8 1 _ rfl; have Cw : Ar.cell? ⟨Ag, (Aa : Int).toNat * 5 + 2, none⟩ = some (.int .i64 ((rd_T48 Ae Aa).f2)) := hcc8 2 _ rfl; have Cx : Ar.cell? ⟨Ag, (Aa : Int).toNat * 5 + 3, none⟩ = some (.int .i64 ((rd_T48 Ae Aa).f3)) := hcc8 3 _ rfl; have Cy : Ar.cell? ⟨Ag, (Aa : Int).toNat * 5 + 4, none⟩ = some (.int .i64 ((rd_T48 Ae Aa).f4)) := hcc8 4 _ rfl; have Cz : Ar.frozen? ⟨Ag, (Aa : Int).toNat * 5, none⟩ = false := hfr8 0; have C0 : Ar.frozen? ⟨Ag, (Aa : Int).toNat * 5 + 1, none⟩ = false := hfr8 1; have C1 : Ar.frozen? ⟨Ag, (Aa : Int).toNat * 5 + 2, none⟩ = false := hfr8 2; have C2 : Ar.frozen? ⟨Ag, (Aa : Int).toNat * 5 + 3, none⟩ = false := hfr8 3; have C3 : Ar.frozen? ⟨Ag, (Aa : Int).toNat * 5 + 4, none⟩ = false := hfr8 4; clear hcl8 hcc8 hfr8 hM8; replace p8 := eq_true p8; replace q8 := eq_true q8; have HX17 := aM (show Kd.R k48 48 Ar w0.heap.size (fun k_ => (P0_ k_ ∨ w.heap.size ≤ k_)) (.slice (some ⟨Ag, 0, none⟩) Ab.length Aj) Ae from Z7); obtain ⟨ce17, hcl17, hM17, hcc17, hfr17⟩ := Kd.R_elem HX17.out z48 (Aa : Int) (of_decide_eq_true Z2) Z63; obtain rfl := k48_openM hM17; have Bf := Kd.R_seg HX17.out (Aa : Int) (of_decide_eq_true Z2) Z63 (seg := [.int .i64 (wrap64 ((wrap64 ((wrap64 (Ac + 1)) + 1)) + 1))]) (j := 3) hcl17 hcc17 (show 4 ≤ 5 from by decide) (x' := (⟨(rd_T48 Ae Aa).f0, (rd_T48 Ae Aa).f1, (rd_T48 Ae Aa).f2, wrap64 ((wrap64 ((wrap64 (Ac + 1)) + 1)) + 1), (rd_T48 Ae Aa).f4⟩ : S48)) (k48_mkM _ _ _ (⟨(rd_T48 Ae Aa).f0, (rd_T48 Ae Aa).f1, (rd_T48 Ae Aa).f2, wrap64 ((wrap64 ((wrap64 (Ac + 1)) + 1)) + 1), (rd_T48 Ae Aa).f4⟩ : S48) ) (fun _ hk => hk); have Bg := hcc17 3 _ rfl; (try simp only [show (k48).sz = 5 from rfl, Nat.mul_one, Nat.add_zero] at Bg); have Bh := hfr17 3; (try simp only [show (k48).sz = 5 from rfl, Nat.mul_one, Nat.add_zero] at Bh); clear hcl17 hcc17 hfr17 hM17) | ((with_reducible refine gate_store (t := 3) (p := 37) rfl ?_); refine store_event (t := 3) (p := 37) (v := ?vo_w18) (w1 := (Ar.setCell ⟨Ag, (Aa : Int).toNat * 5 + 3, none⟩ (.int .i64 (wrap64 ((wrap64 ((wrap64 (Ac + 1)) + 1)) + 1))))) ?hg ?ho ?hn ?hr ?_; (case ho => rfl); (case hg => rfl); (case hn => rfl); (case hr => first | (go_simp; done) | (go_simp; rfl)); intro Au hw; have hg : Ar.grownBy Au (some Ag) := (by rw [hw]; exact Bf.2); have hp_ : Kd.R k48 48 Au w0.heap.size (fun k_ => (P0_ k_ ∨ w.heap.size ≤ k_)) (.slice (some ⟨Ag, 0, none⟩) Ab.length Aj) Ad := (by rw [hw, Bo.out]; exact Bf.1); clear Bf; replace HB := aM ((Z51 : Below w0.heap.size w0 Au)); replace HK := aM (Kept.of_grown (S := (fun k_ => P0_ k_)) hg Z10 (fun k_ e_ => (Af.out.1 k_ e_))); replace Af := aM (hp_); clear hg hw hp_; have p9 : 0 ≤ (Aa : Int) := of_decide_eq_true Z2; have q9 : (Aa : Int) < ((Ab.length : Int) : Int) := of_decide_eq_true Z2; obtain ⟨ce9, hcl9, hM9, hcc9, hfr9⟩ := Kd.R_elem Af.out z48 (Aa : Int) p9 q9; obtain rfl := k48_openM hM9; have C4 : Au.cell? ⟨Ag, (Aa : Int).toNat * 5, none⟩ = some (.int .i64 ((rd_T48 Ad Aa).f0)) := hcc9 0 _ rfl; have C5 : Au.cell? ⟨Ag, (Aa : Int).toNat * 5 + 1, none⟩ = some (.int .i64 ((rd_T48 Ad Aa).f1)) := hcc9 1 _ rfl; have C6 : Au.cell? ⟨Ag, (Aa : Int).toNat * 5 + 2, none⟩ = some (.int .i64 ((rd_T48 Ad Aa).f2)) := hcc9 2 _ rfl; have C7 : Au.cell? ⟨Ag, (Aa : Int).toNat * 5 + 3, none⟩ = some (.int .i64 ((rd_T48 Ad Aa).f3)) := hcc9 3 _ rfl; have C8 : Au.cell? ⟨Ag, (Aa : Int).toNat * 5 + 4, none⟩ = some (.int .i64 ((rd_T48 Ad Aa).f4)) := hcc9 4 _ rfl; have C9 : Au.frozen? ⟨Ag, (Aa : Int).toNat * 5, none⟩ = false := hfr9 0; have Da : Au.frozen? ⟨Ag, (Aa : Int).toNat * 5 + 1, none⟩ = false := hfr9 1; have Db : Au.frozen? ⟨Ag, (Aa : Int).toNat * 5 + 2, none⟩ = false := hfr9 2; have Dc : Au.frozen? ⟨Ag, (Aa : Int).toNat * 5 + 3, none⟩ = false := hfr9 3; have Dd : Au.frozen? ⟨Ag, (Aa : Int).toNat * 5 + 4, none⟩ = false := hfr9 4; clear hcl9 hcc9 hfr9 hM9; replace p9 := eq_true p9; replace q9 := eq_true q9; have HX19 := aM (show Kd.R k48 48 Au w0.heap.size (fun k_ => (P0_ k_ ∨ w.heap.size ≤ k_)) (.slice (some ⟨Ag, 0, none⟩) Ab.length Aj) Ad from Z7); obtain ⟨ce19, hcl19, hM19, hcc19, hfr19⟩ := Kd.R_elem HX19.out z48 (Aa : Int) (of_decide_eq_true Z2) Z63; obtain rfl := k48_openM hM19; have Bi := Kd.R_seg HX19.out (Aa : Int) (of_decide_eq_true Z2) Z63 (seg := [.int .i64 (wrap64 ((wrap64 ((wrap64 ((wrap64 (Ac + 1)) + 1)) + 1)) + 1))]) (j := 4) hcl19 hcc19 (show 5 ≤ 5 from by decide) (x' := (⟨(rd_T48 Ad Aa).f0, (rd_T48 Ad Aa).f1, (rd_T48 Ad Aa).f2, (rd_T48 Ad Aa).f3, wrap64 ((wrap64 ((wrap64 ((wrap64 (Ac + 1)) + 1)) + 1)) + 1)⟩ : S48)) (k48_mkM _ _ _ (⟨(rd_T48 Ad Aa).f0, (rd_T48 Ad Aa).f1, (rd_T48 Ad Aa).f2, (rd_T48 Ad Aa).f3, wrap64 ((wrap64 ((wrap64 ((wrap64 (Ac + 1)) + 1)) + 1)) + 1)⟩ : S48) ) (fun _ hk => hk); have Bj := hcc19 4 _ rfl; (try simp only [show (k48).sz = 5 from rfl, Nat.mul_one, Nat.add_zero] at Bj); have Bk := hfr19 4; (try simp only [show (k48).sz = 5 from rfl, Nat.mul_one, Nat.add_zero] at Bk); clear hcl19 hcc19 hfr19 hM19) | ((with_reducible refine gate_store (t := 3) (p := 44) rfl ?_); refine store_event (t := 3) (p := 44) (v := ?vo_w20) (w1 := (Au.setCell ⟨Ag, (Aa : Int).toNat * 5 + 4, none⟩ (.int .i64 (wrap64 ((wrap64 ((wrap64 ((wrap64 (Ac + 1)) + 1)) + 1)) + 1))))) ?hg ?ho ?hn ?hr ?_; (case ho => rfl); (case hg => rfl); (case hn => rfl); (case hr => first | (go_simp; done) | (go_simp; rfl)); intro Bs hw; have hg : Au.grownBy Bs (some Ag) := (by rw [hw]; exact Bi.2); have hp_ : Kd.R k48 48 Bs w0.heap.size (fun k_ => (P0_ k_ ∨ w.heap.size ≤ k_)) (.slice (some ⟨Ag, 0, none⟩) Ab.length Aj) Av := (by rw [hw, Bp.out]; exact Bi.1); clear Bi; replace HB := aM ((Z51 : Below w0.heap.size w0 Bs)); replace HK := aM (Kept.of_grown (S := (fun k_ => P0_ k_)) hg Z10 (fun k_ e_ => (Af.out.1 k_ e_))); replace Af := aM (hp_); clear hg hw hp_))
     go_roundg k1
     case measure => have := HK1.out; omega
     case rel => exact ⟨(Av), (wrap64 ((wrap64 ((wrap64 ((wrap64 ((wrap64 (Ac + 1)) + 1)) + 1)) + 1)) + 1)), (wrap64 (Aa + 1)), Z3, Z3, H', ⟨Z39⟩, ⟨Z7⟩, ⟨Z10⟩, ⟨Z0⟩⟩
    ·rw [if_neg c4] at H
     exact absurd H (by simp)
   ·rw [if_neg c3] at H
    have c3b0 : decide (Aa < (Ab.length : Int)) = false := decide_eq_false c3; clear c3
    simp only [Option.some.injEq, Prod.mk.injEq] at H
    obtain ⟨rfl, rfl⟩ := H; obtain ⟨Dh, Di, Bt⟩ := Kd.R_slice Af.out; subst Bt
    go_wp2
    go_ret
    exact ⟨Z4, Z7, Z0, Z10⟩
def laws_markIntS.l0 : Nat → List Int → Int → Int → Option (Int × List Int)
 | 0, _, _, _ => none
 | k + 1, x0, x1, x5 => if x5 < (x0.length : Int) then (if 0 ≤ x5 then (laws_markIntS.l0 k (x0.set (x5 : Int).toNat x1) (wrap64 (x1 + 1)) (wrap64 (x5 + 1))) else (none)) else (some (x1, x0))
def laws_markIntS.f (k : Nat) (l0 : List Int) (a1 : Int) : Option (Int × List Int) := laws_markIntS.l0 k l0 a1 0
theorem laws_markIntS.calls (k : Nat) (P0_ : Nat → Prop) (u9000_ : Value) (l0 : List Int) (a1 : Int) (r1 : Int) (r2 : List Int) (w0 w : World) (hB : Below w0.heap.size w0 w) (Ao : Kd.R (Kd.int .i64) 3 w w0.heap.size P0_ u9000_ l0) (h : laws_markIntS.f k l0 a1 = some (r1, r2)) :
  Calls Try.prog 14 #[u9000_, .int .i64 a1] w fun e w' => e = .returned (.int .i64 r1) ∧ Kd.R (Kd.int .i64) 3 w' w0.heap.size (fun k_ => (P0_ k_ ∨ w.heap.size ≤ k_)) u9000_ r2 ∧ Below w0.heap.size w0 w' ∧ Kept w w' (fun k_ => P0_ k_) := by
 have Ap := aM (show Kd.R (Kd.int .i64) 3 w w0.heap.size (fun k_ => (P0_ k_ ∨ w.heap.size ≤ k_)) u9000_ l0 from Kd.R_mono Ao (fun k_ hk => (.inl hk))); have HK := aM (Kept.refl w (fun k_ => P0_ k_)); have Aw := Aside0.mk hB.size; have HB := Aside0.mk hB; clear hB; have H : (laws_markIntS.l0 k l0 a1 0) = some (r1, r2) := h; clear h; have H' := Aside0.mk H; clear H
 go_enter Try.func14, Try.ntmps14
 go_wp2
 go_loopg [1, 5] k (fun kq v1 v5 w' => ∃ (Ac : List Int) (Ad : Int) (Aa : Int), v1 = .int .i64 Ad ∧ v5 = .int .i64 Aa ∧ Aside0 (laws_markIntS.l0 kq Ac Ad Aa = some (r1, r2)) ∧ Aside0 (kq ≤ k) ∧ Aside0 (Kd.R (Kd.int .i64) 3 w' w0.heap.size (fun k_ => (P0_ k_ ∨ w.heap.size ≤ k_)) u9000_ Ac) ∧ Aside0 (Kept w w' (fun k_ => P0_ k_)) ∧ Aside0 (Below w0.heap.size w0 w'))
 case atStart => exact ⟨(l0), (a1), (0), Z3, Z3, H', ⟨Nat.le_refl _⟩, ⟨Z37⟩, ⟨Z10⟩, ⟨Z0⟩⟩
 case round =>
  clear H'; (try clear c1); (try clear p2); obtain ⟨Ac, Ad, Aa, rfl, rfl, HA, HK1, Ab, HK, HB⟩ := hrel; cases gk with
  | zero => exact absurd HA.out (by simp [laws_markIntS.l0])
  | succ k1 =>
   have H := HA.out; clear HA
   simp only [laws_markIntS.l0] at H
   by_cases c3 : Aa < (Ac.length : Int)
   ·rw [if_pos c3] at H
    have c3b0 : decide (Aa < (Ac.length : Int)) = true := decide_eq_true c3; clear c3
    by_cases c4 : 0 ≤ Aa
    ·rw [if_pos c4] at H
     have c4b0 : decide (0 ≤ Aa) = true := decide_eq_true c4; clear c4; obtain ⟨Af, Ae⟩ : ∃ y_ : List Int, y_ = (Ac.set (Aa : Int).toNat Ad) := ⟨_, rfl⟩
     replace H : (laws_markIntS.l0 k1 Af (wrap64 (Ad + 1)) (wrap64 (Aa + 1))) = some (r1, r2) := by first | (rw [Ae]; with_reducible exact H) | (have H2_ := (Option.bind_some _ _).symm.trans H; rw [Ae]; with_reducible exact H2_) | (have H2_ := (Option.bind_some _ _).symm.trans H; with_reducible exact H2_) | with_reducible exact H | (rw [Ae]; exact H) | exact H
     have Ag := Aside0.mk Ae; clear Ae; have H' := Aside0.mk H; clear H; obtain ⟨Ax, Aq, Ar⟩ := Kd.R_slice Ab.out; subst Ar; have p5 : 0 ≤ (Aa : Int) := of_decide_eq_true Z2; have q5 : (Aa : Int) < ((Ac.length : Int) : Int) := of_decide_eq_true Z2; obtain ⟨Ah, Ay, Aj, Ak, gl5, cl5, HG5⟩ := Kd.R_form Ab.out (by omega)
     (first | cases Aj | (injection Aj with ea_ en_ ec_; (first | subst ea_ | (injection ea_ with ea_; subst ea_)); subst ec_; clear en_))
     have Au := Aside0.mk Ak; have Az := Aside0.mk HG5; clear Ak gl5 HG5; have Al := aM (show (P0_ Ah ∨ w.heap.size ≤ Ah) from (Ab.out.1 _ rfl)); obtain ⟨Am, An⟩ := Kd.R_celln 0 Ab.out (Aa : Int) p5 q5; replace p5 := eq_true p5; replace q5 := eq_true q5; have Ai := Kd.R_putg Ab.out (Aa : Int) Ad
     go_wp2_with (first | ((with_reducible refine gate_store (t := 3) (p := 15) rfl ?_); refine store_event (t := 3) (p := 15) (v := ?vo_w8) (w1 := (wr.setCell ⟨Ah, (Aa : Int).toNat, none⟩ (.int .i64 Ad))) ?hg ?ho ?hn ?hr ?_; (case ho => rfl); (case hg => rfl); (case hn => rfl); (case hr => first | (go_simp; done) | (go_simp; rfl)); intro w8 hw; have hg : wr.grownBy w8 (some Ah) := (by rw [hw]; exact Ai.2); have hp_ : Kd.R (Kd.int .i64) 3 w8 w0.heap.size (fun k_ => (P0_ k_ ∨ w.heap.size ≤ k_)) (.slice (some ⟨Ah, 0, none⟩) Ac.length Aq) Af := (by rw [hw, Ag.out]; exact Ai.1); clear Ai; replace HB := aM ((by rw [hw]; exact below_set (HB.out) Au.out : Below w0.heap.size w0 w8)); replace HK := aM (Kept.of_grown (S := (fun k_ => P0_ k_)) hg Z10 (fun k_ e_ => (Ab.out.1 k_ e_))); replace Ab := aM (hp_); clear hg hw hp_))
     go_roundg k1
     case measure => have := HK1.out; omega
     case rel => exact ⟨(Af), (wrap64 (Ad + 1)), (wrap64 (Aa + 1)), Z3, Z3, H', ⟨Z39⟩, ⟨Z14⟩, ⟨Z10⟩, ⟨Z0⟩⟩
    ·rw [if_neg c4] at H
     exact absurd H (by simp)
   ·rw [if_neg c3] at H
    have c3b0 : decide (Aa < (Ac.length : Int)) = false := decide_eq_false c3; clear c3
    simp only [Option.some.injEq, Prod.mk.injEq] at H
    obtain ⟨rfl, rfl⟩ := H; obtain ⟨A3, Ba, Av⟩ := Kd.R_slice Ab.out; subst Av
    go_wp2
    go_ret
    exact ⟨Z4, Z14, Z0, Z10⟩
def laws_heldIntS.l0 : Nat → List Int → Int → Int → Option (Int)
 | 0, _, _, _ => none
 | k + 1, x0, x1, x5 => if x5 < (x0.length : Int) then (if 0 ≤ x5 then (if (rd x0 x5) = x1 then (laws_heldIntS.l0 k x0 (wrap64 (x1 + 1)) (wrap64 (x5 + 1))) else (some (-1))) else (none)) else (some x1)
def laws_heldIntS.f (k : Nat) (l0 : List Int) (a1 : Int) : Option (Int) := laws_heldIntS.l0 k l0 a1 0
theorem laws_heldIntS.calls (k : Nat) (A0 : Option Addr) (c0 : Nat) (l0 : List Int) (a1 : Int) (r : Int) (w : World) (Af : Kd.C (Kd.int .i64) w A0 l0.length l0) (Ag : l0.length ≤ c0) (h : laws_heldIntS.f k l0 a1 = some r) :
  Calls Try.prog 15 #[.slice A0 l0.length c0, .int .i64 a1] w fun e w' => e = .returned (.int .i64 r) ∧ Drawn0 w w' := by
 have Ah := Aside0.mk Af; have Ai := Aside0.mk Ag; clear Af Ag; have H : (laws_heldIntS.l0 k l0 a1 0) = some r := h; clear h; have H' := Aside0.mk H; clear H
 go_enter Try.func15, Try.ntmps15
 go_wp2
 go_loopg [1, 5] k (fun kq v1 v5 w' => ∃ (Ab : Int) (Aa : Int), v1 = .int .i64 Ab ∧ v5 = .int .i64 Aa ∧ Aside0 (laws_heldIntS.l0 kq l0 Ab Aa = some r) ∧ Aside0 (kq ≤ k) ∧ Drawn0 w w')
 case atStart => exact ⟨(a1), (0), Z3, Z3, H', ⟨Nat.le_refl _⟩, Z9⟩
 case round =>
  clear H'; (try clear c1); (try clear p2); obtain ⟨Ab, Aa, rfl, rfl, HA, HK1, ⟨m1, rfl⟩⟩ := hrel; cases gk with
  | zero => exact absurd HA.out (by simp [laws_heldIntS.l0])
  | succ k1 =>
   have H := HA.out; clear HA
   simp only [laws_heldIntS.l0] at H
   by_cases c3 : Aa < (l0.length : Int)
   ·rw [if_pos c3] at H
    have c3b0 : decide (Aa < (l0.length : Int)) = true := decide_eq_true c3; clear c3
    by_cases c4 : 0 ≤ Aa
    ·rw [if_pos c4] at H
     have c4b0 : decide (0 ≤ Aa) = true := decide_eq_true c4; clear c4
     by_cases c5 : (rd l0 Aa) = Ab
     ·rw [if_pos c5] at H
      have c5b0 : ((rd l0 Aa) == Ab) = true := beq_iff_eq.mpr c5; have c5b1 : ((rd l0 Aa) != Ab) = false := bne_eq_false_iff_eq.mpr c5; clear c5; have H' := Aside0.mk H; clear H; have Ac : 0 ≤ (Aa : Int) := of_decide_eq_true Z2; have Ad : Aa < (l0.length : Int) := of_decide_eq_true Z2; obtain ⟨ad127, e127, Ae⟩ := Kd.at_int Ah.out Aa Ac Ad; cases e127; replace Ac := eq_true Ac; replace Ad := eq_true Ad
      go_wp2
      go_roundg k1
      case measure => have := HK1.out; omega
      case rel => exact ⟨(wrap64 (Ab + 1)), (wrap64 (Aa + 1)), Z3, Z3, H', ⟨Z39⟩, Z9⟩
     ·rw [if_neg c5] at H
      have c5b0 : ((rd l0 Aa) == Ab) = false := beq_eq_false_iff_ne.mpr c5; have c5b1 : ((rd l0 Aa) != Ab) = true := bne_iff_ne.mpr c5; obtain rfl := Option.some.inj H; have Ac : 0 ≤ (Aa : Int) := of_decide_eq_true Z2; have Ad : Aa < (l0.length : Int) := of_decide_eq_true Z2; obtain ⟨ad127, e127, Ae⟩ := Kd.at_int Ah.out Aa Ac Ad; cases e127; replace Ac := eq_true Ac; replace Ad := eq_true Ad
      go_wp2
      go_ret
      exact ⟨Z3, Z9⟩
    ·rw [if_neg c4] at H
     exact absurd H (by simp)
   ·rw [if_neg c3] at H
    have c3b0 : decide (Aa < (l0.length : Int)) = false := decide_eq_false c3; clear c3; obtain rfl := Option.some.inj H
    go_wp2
    go_ret
    exact ⟨Z3, Z9⟩
def spec_l1In.f (a0 : Int) (a1 : Int) (a2 : Int) : Option (Bool) := if a0 ≥ a1 then (some (decide (a0 ≤ a2))) else (some false)
theorem spec_l1In.calls (a0 : Int) (a1 : Int) (a2 : Int) (r : Bool) (w : World) (h : spec_l1In.f a0 a1 a2 = some r) :
  Calls Try.prog 53 #[.int .i64 a0, .int .i64 a1, .int .i64 a2] w fun e w' => e = .returned (.bool r) ∧ Drawn0 w w' := by
 have H : (if a0 ≥ a1 then (some (decide (a0 ≤ a2))) else (some false)) = some r := h; clear h
 by_cases c4 : a0 ≥ a1
 ·rw [if_pos c4] at H
  have c4b0 : decide (a1 ≤ a0) = true := decide_eq_true c4; clear c4; obtain rfl := Option.some.inj H
  go_enter Try.func53, Try.ntmps53
  go_wp2
  go_ret
  exact ⟨Z3, Z9⟩
 ·rw [if_neg c4] at H
  have c4b0 : decide (a1 ≤ a0) = false := decide_eq_false c4; clear c4; obtain rfl := Option.some.inj H
  go_enter Try.func53, Try.ntmps53
  go_wp2
  go_ret
  exact ⟨Z3, Z9⟩
theorem spec_l1In.eq (a b c : Int) : spec_l1In.f a b c = some (rng a b c) := by
 unfold spec_l1In.f rng; by_cases h : b ≤ a <;> simp [h]
def spec_l2Day.f (a0 : Int) : Option (Bool) := (spec_l1In.f a0 0 4000).bind fun t128 => (some t128)
theorem spec_l2Day.calls (a0 : Int) (r : Bool) (w : World) (h : spec_l2Day.f a0 = some r) :
  Calls Try.prog 57 #[.int .i64 a0] w fun e w' => e = .returned (.bool r) ∧ Drawn0 w w' := by
 have H : ((spec_l1In.f a0 0 4000).bind fun Aa => (some Aa)) = some r := h; clear h; replace H := Option.bind_eq_some_iff.mp H; obtain ⟨Aa, Ab, H⟩ := H; replace H : (some Aa) = some r := H; have A2 := Aside0.mk Ab; clear Ab; obtain rfl := Option.some.inj H
 go_enter Try.func57, Try.ntmps57
 go_wp2_with (first | ((with_reducible refine gate_callee (f := 53) rfl ?_); refine glE (some 4) Try.func53 #[.int .i64 a0, .int .i64 0, .int .i64 4000] ?_; (with_reducible refine (spec_l1In.calls a0 0 4000 Aa _ A2.out).mono ?_); rintro e w' ⟨rfl, ⟨nd, rfl⟩⟩; refine ⟨_, rfl, ?_⟩))
 go_ret
 exact ⟨Z3, Z9⟩
def spec_l14One.f (a0_0 : Int) (a0_1 : Int) (a0_2 : Int) (a0_3 : Int) (a0_4 : Int) : Option (Bool) := (spec_l1In.f a0_0 1 99).bind fun t130 => (if t130 = true then ((spec_l2Day.f a0_1).bind fun t131 => (if t131 = true then ((spec_l1In.f a0_2 0 12000).bind fun t132 => (if t132 = true then ((spec_l1In.f a0_3 0 a0_2).bind fun t133 => (if t133 = true then ((spec_l1In.f a0_4 0 12).bind fun t134 => (some t134)) else (some false))) else (some false))) else (some false))) else (some false))
theorem spec_l14One.calls (Ad : Int) (Ah : Int) (Aa : Int) (Af : Int) (Ae : Int) (r : Bool) (w : World) (h : spec_l14One.f Ad Ah Aa Af Ae = some r) :
  Calls Try.prog 59 #[.agg #[.int .i64 Ad, .int .i64 Ah, .int .i64 Aa, .int .i64 Af, .int .i64 Ae]] w fun e w' => e = .returned (.bool r) ∧ Below w.heap.size w w' := by
 have hu48 := Try.underlying48; have HB := aM (Below.refl w.heap.size w); have H : ((spec_l1In.f Ad 1 99).bind fun An => (if An = true then ((spec_l2Day.f Ah).bind fun Ak => (if Ak = true then ((spec_l1In.f Aa 0 12000).bind fun Aj => (if Aj = true then ((spec_l1In.f Af 0 Aa).bind fun Ag => (if Ag = true then ((spec_l1In.f Ae 0 12).bind fun Ac => (some Ac)) else (some false))) else (some false))) else (some false))) else (some false))) = some r := h; clear h; replace H := Option.bind_eq_some_iff.mp H; obtain ⟨An, Ci, H⟩ := H; replace H : (if An = true then ((spec_l2Day.f Ah).bind fun Ak => (if Ak = true then ((spec_l1In.f Aa 0 12000).bind fun Aj => (if Aj = true then ((spec_l1In.f Af 0 Aa).bind fun Ag => (if Ag = true then ((spec_l1In.f Ae 0 12).bind fun Ac => (some Ac)) else (some false))) else (some false))) else (some false))) else (some false)) = some r := H; have A2 := Aside0.mk Ci; clear Ci
 by_cases c3 : An = true
 ·subst c3
  have H1 : ((spec_l2Day.f Ah).bind fun Ak => (if Ak = true then ((spec_l1In.f Aa 0 12000).bind fun Aj => (if Aj = true then ((spec_l1In.f Af 0 Aa).bind fun Ag => (if Ag = true then ((spec_l1In.f Ae 0 12).bind fun Ac => (some Ac)) else (some false))) else (some false))) else (some false))) = some r := by rw [if_pos rfl] at H; exact H
  clear H; have H := H1; clear H1; replace H := Option.bind_eq_some_iff.mp H; obtain ⟨Ak, Cj, H⟩ := H; replace H : (if Ak = true then ((spec_l1In.f Aa 0 12000).bind fun Aj => (if Aj = true then ((spec_l1In.f Af 0 Aa).bind fun Ag => (if Ag = true then ((spec_l1In.f Ae 0 12).bind fun Ac => (some Ac)) else (some false))) else (some false))) else (some false)) = some r := H; have A4 := Aside0.mk Cj; clear Cj
  by_cases c5 : Ak = true
  ·subst c5
   have H1 : ((spec_l1In.f Aa 0 12000).bind fun Aj => (if Aj = true then ((spec_l1In.f Af 0 Aa).bind fun Ag => (if Ag = true then ((spec_l1In.f Ae 0 12).bind fun Ac => (some Ac)) else (some false))) else (some false))) = some r := by rw [if_pos rfl] at H; exact H
   clear H; have H := H1; clear H1; replace H := Option.bind_eq_some_iff.mp H; obtain ⟨Aj, Ck, H⟩ := H; replace H : (if Aj = true then ((spec_l1In.f Af 0 Aa).bind fun Ag => (if Ag = true then ((spec_l1In.f Ae 0 12).bind fun Ac => (some Ac)) else (some false))) else (some false)) = some r := H; have A6 := Aside0.mk Ck; clear Ck
   by_cases c7 : Aj = true
   ·subst c7
    have H1 : ((spec_l1In.f Af 0 Aa).bind fun Ag => (if Ag = true then ((spec_l1In.f Ae 0 12).bind fun Ac => (some Ac)) else (some false))) = some r := by rw [if_pos rfl] at H; exact H
    clear H; have H := H1; clear H1; replace H := Option.bind_eq_some_iff.mp H; obtain ⟨Ag, Cl, H⟩ := H; replace H : (if Ag = true then ((spec_l1In.f Ae 0 12).bind fun Ac => (some Ac)) else (some false)) = some r := H; have A8 := Aside0.mk Cl; clear Cl
    by_cases c9 : Ag = true
    ·subst c9
     have H1 : ((spec_l1In.f Ae 0 12).bind fun Ac => (some Ac)) = some r := by rw [if_pos rfl] at H; exact H
     clear H; have H := H1; clear H1; replace H := Option.bind_eq_some_iff.mp H; obtain ⟨Ac, Ao, H⟩ := H; replace H : (some Ac) = some r := H; have Cm := Aside0.mk Ao; clear Ao; obtain rfl := Option.some.inj H
     go_enter Try.func59, Try.ntmps59
     go_wp2_with (first | ((with_reducible refine gate_dst (N := 1) rfl ?_); refine bxE 1 #[.int .i64 Ad, .int .i64 Ah, .int .i64 Aa, .int .i64 Af, .int .i64 Ae] 48 ?_; intro Al hg Cn hbox hb; have Ab := aM (hbox); have Am := gwS hg Z0; have Ai := gwS hg Z0; replace HB := hbS Z0 hb; clear hb hbox hg; obtain ⟨Ap, Aq, Ar, Au, Av⟩ := bz5 Ab; obtain ⟨Aw, Ax, Ay, Az, A3⟩ := fz5 Ab) | ((with_reducible refine gate_callee (f := 53) rfl ?_); refine glE (some 5) Try.func53 #[.int .i64 Ad, .int .i64 1, .int .i64 99] ?_; (with_reducible refine (spec_l1In.calls Ad 1 99 true _ A2.out).mono ?_); rintro e w' ⟨rfl, ⟨nd, rfl⟩⟩; refine ⟨_, rfl, ?_⟩) | (go_at_call 57; (with_reducible refine (spec_l2Day.calls Ah true _ A4.out).mono ?_); rintro e w' ⟨rfl, ⟨nd, rfl⟩⟩) | (go_at_call 53; (with_reducible refine (spec_l1In.calls Aa 0 12000 true _ A6.out).mono ?_); rintro e w' ⟨rfl, ⟨nd, rfl⟩⟩) | (go_at_call 53; (with_reducible refine (spec_l1In.calls Af 0 Aa true _ A8.out).mono ?_); rintro e w' ⟨rfl, ⟨nd, rfl⟩⟩) | (go_at_call 53; (with_reducible refine (spec_l1In.calls Ae 0 12 Ac _ Cm.out).mono ?_); rintro e w' ⟨rfl, ⟨nd, rfl⟩⟩))
     go_ret
     exact ⟨Z4, Z8⟩
    ·replace c9 := Bool.eq_false_iff.mpr c9
     subst c9
     have H1 : (some false) = some r := by rw [if_neg (show ¬ (false = true) by decide)] at H; exact H
     clear H; have H := H1; clear H1; obtain rfl := Option.some.inj H
     go_enter Try.func59, Try.ntmps59
     go_wp2_with (first | ((with_reducible refine gate_dst (N := 1) rfl ?_); refine bxE 1 #[.int .i64 Ad, .int .i64 Ah, .int .i64 Aa, .int .i64 Af, .int .i64 Ae] 48 ?_; intro Al hg Co hbox hb; have Ab := aM (hbox); have Am := gwS hg Z0; have Ai := gwS hg Z0; replace HB := hbS Z0 hb; clear hb hbox hg; obtain ⟨Ba, Bb, Bc, Bd, Bf⟩ := bz5 Ab; obtain ⟨Bg, Bh, Bi, Bj, Bk⟩ := fz5 Ab) | ((with_reducible refine gate_callee (f := 53) rfl ?_); refine glE (some 5) Try.func53 #[.int .i64 Ad, .int .i64 1, .int .i64 99] ?_; (with_reducible refine (spec_l1In.calls Ad 1 99 true _ A2.out).mono ?_); rintro e w' ⟨rfl, ⟨nd, rfl⟩⟩; refine ⟨_, rfl, ?_⟩) | (go_at_call 57; (with_reducible refine (spec_l2Day.calls Ah true _ A4.out).mono ?_); rintro e w' ⟨rfl, ⟨nd, rfl⟩⟩) | (go_at_call 53; (with_reducible refine (spec_l1In.calls Aa 0 12000 true _ A6.out).mono ?_); rintro e w' ⟨rfl, ⟨nd, rfl⟩⟩) | (go_at_call 53; (with_reducible refine (spec_l1In.calls Af 0 Aa false _ A8.out).mono ?_); rintro e w' ⟨rfl, ⟨nd, rfl⟩⟩))
     go_ret
     exact ⟨Z4, Z8⟩
   ·replace c7 := Bool.eq_false_iff.mpr c7
    subst c7
    have H1 : (some false) = some r := by rw [if_neg (show ¬ (false = true) by decide)] at H; exact H
    clear H; have H := H1; clear H1; obtain rfl := Option.some.inj H
    go_enter Try.func59, Try.ntmps59
    go_wp2_with (first | ((with_reducible refine gate_dst (N := 1) rfl ?_); refine bxE 1 #[.int .i64 Ad, .int .i64 Ah, .int .i64 Aa, .int .i64 Af, .int .i64 Ae] 48 ?_; intro Al hg Cp hbox hb; have Ab := aM (hbox); have Am := gwS hg Z0; have Ai := gwS hg Z0; replace HB := hbS Z0 hb; clear hb hbox hg; obtain ⟨Bl, Bm, Bn, Bo, Bp⟩ := bz5 Ab; obtain ⟨Bq, Br, Bs, Bt, Bu⟩ := fz5 Ab) | ((with_reducible refine gate_callee (f := 53) rfl ?_); refine glE (some 5) Try.func53 #[.int .i64 Ad, .int .i64 1, .int .i64 99] ?_; (with_reducible refine (spec_l1In.calls Ad 1 99 true _ A2.out).mono ?_); rintro e w' ⟨rfl, ⟨nd, rfl⟩⟩; refine ⟨_, rfl, ?_⟩) | (go_at_call 57; (with_reducible refine (spec_l2Day.calls Ah true _ A4.out).mono ?_); rintro e w' ⟨rfl, ⟨nd, rfl⟩⟩) | (go_at_call 53; (with_reducible refine (spec_l1In.calls Aa 0 12000 false _ A6.out).mono ?_); rintro e w' ⟨rfl, ⟨nd, rfl⟩⟩))
    go_ret
    exact ⟨Z4, Z8⟩
  ·replace c5 := Bool.eq_false_iff.mpr c5
   subst c5
   have H1 : (some false) = some r := by rw [if_neg (show ¬ (false = true) by decide)] at H; exact H
   clear H; have H := H1; clear H1; obtain rfl := Option.some.inj H
   go_enter Try.func59, Try.ntmps59
   go_wp2_with (first | ((with_reducible refine gate_dst (N := 1) rfl ?_); refine bxE 1 #[.int .i64 Ad, .int .i64 Ah, .int .i64 Aa, .int .i64 Af, .int .i64 Ae] 48 ?_; intro Al hg Cq hbox hb; have Ab := aM (hbox); have Am := gwS hg Z0; have Ai := gwS hg Z0; replace HB := hbS Z0 hb; clear hb hbox hg; obtain ⟨Bv, Bw, Bx, Bz, B0⟩ := bz5 Ab; obtain ⟨B1, B2, B3, B5, B7⟩ := fz5 Ab) | ((with_reducible refine gate_callee (f := 53) rfl ?_); refine glE (some 5) Try.func53 #[.int .i64 Ad, .int .i64 1, .int .i64 99] ?_; (with_reducible refine (spec_l1In.calls Ad 1 99 true _ A2.out).mono ?_); rintro e w' ⟨rfl, ⟨nd, rfl⟩⟩; refine ⟨_, rfl, ?_⟩) | (go_at_call 57; (with_reducible refine (spec_l2Day.calls Ah false _ A4.out).mono ?_); rintro e w' ⟨rfl, ⟨nd, rfl⟩⟩))
   go_ret
   exact ⟨Z4, Z8⟩
 ·replace c3 := Bool.eq_false_iff.mpr c3
  subst c3
  have H1 : (some false) = some r := by rw [if_neg (show ¬ (false = true) by decide)] at H; exact H
  clear H; have H := H1; clear H1; obtain rfl := Option.some.inj H
  go_enter Try.func59, Try.ntmps59
  go_wp2_with (first | ((with_reducible refine gate_dst (N := 1) rfl ?_); refine bxE 1 #[.int .i64 Ad, .int .i64 Ah, .int .i64 Aa, .int .i64 Af, .int .i64 Ae] 48 ?_; intro Al hg Cr hbox hb; have Ab := aM (hbox); have Am := gwS hg Z0; have Ai := gwS hg Z0; replace HB := hbS Z0 hb; clear hb hbox hg; obtain ⟨B8, B9, Ca, Cb, Cc⟩ := bz5 Ab; obtain ⟨Cd, Ce, Cf, Cg, Ch⟩ := fz5 Ab) | ((with_reducible refine gate_callee (f := 53) rfl ?_); refine glE (some 5) Try.func53 #[.int .i64 Ad, .int .i64 1, .int .i64 99] ?_; (with_reducible refine (spec_l1In.calls Ad 1 99 false _ A2.out).mono ?_); rintro e w' ⟨rfl, ⟨nd, rfl⟩⟩; refine ⟨_, rfl, ?_⟩))
  go_ret
  exact ⟨Z4, Z8⟩
end Go.Proofs.Ytffgmmfkiecheaa.H
