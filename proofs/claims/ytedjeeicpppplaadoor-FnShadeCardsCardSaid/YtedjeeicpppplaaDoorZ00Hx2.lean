-- by wip/pack.py of this repo
import Derived.Test.YtedjeeicpppplaaDoorZ00Hx0
import Derived.Test.YtedjeeicpppplaaDoorZ00Hx1
import Derived.Test.YtedjeeicpppplaaDoorZ00WLast
import Derived.Test.YtedjeeicpppplaaDoorZ00WMore
import Derived.Test.YtedjeeicpppplaaDoorZ00WTab
import Derived.Test.YtedjeeicpppplaaDoorZ00WWords
import Derived.Test.YtedjeeicpppplaaDoorZ00Short
namespace Go.Proofs.YtedjeeicpppplaaDoor.H
open Go.RowKit Go.Proofs.YtedjeeicpppplaaDoorW.PrintWords Go.Proofs.YtedjeeicpppplaaDoorW.PrintLast Go.Proofs.YtedjeeicpppplaaDoorW.PrintMore
attribute [local go_sem] max2_int min2_int max_two min_two max_three min_three max_four min_four
set_option maxHeartbeats 8000000
set_option maxRecDepth 100000
set_option linter.unusedVariables false
set_option linter.unusedSimpArgs false
mutual
def spec_l3Good.l0 : Nat → List (S30) → Int → Option (Bool)
 | 0, _, _ => none
 | k + 1, x0, x3 => if x3 < (x0.length : Int) then (spec_l3Good.j1 k x0 x3 (decide (x3 ≤ 10))) else (spec_l3Good.j1 k x0 x3 false)
def spec_l3Good.j1 : Nat → List (S30) → Int → Bool → Option (Bool)
 | 0, _, _, _ => none
 | k + 1, x0, x3, x12 => if x12 = true then (if 0 ≤ x3 then (if x3 < (x0.length : Int) then ((spec_l3One.f k ((rd_T30 x0 x3).f0) ((rd_T30 x0 x3).f1) ((rd_T30 x0 x3).f2) ((rd_T30 x0 x3).f3) ((rd_T30 x0 x3).f4)).bind fun t118 => (if t118 = true then (if x3 > 0 then (if 0 ≤ (wrap64 (x3 - 1)) then (if (wrap64 (x3 - 1)) < (x0.length : Int) then (spec_l3Good.j2 k x0 x3 (decide (((rd_T30 x0 (wrap64 (x3 - 1))).f0) ≥ ((rd_T30 x0 x3).f0)))) else (none)) else (none)) else (spec_l3Good.j2 k x0 x3 false)) else (spec_l3Good.j2 k x0 x3 true))) else (none)) else (none)) else (some (decide ((x0.length : Int) ≤ 10)))
def spec_l3Good.j2 : Nat → List (S30) → Int → Bool → Option (Bool)
 | 0, _, _, _ => none
 | k + 1, x0, x3, x38 => if x38 = true then (some false) else (spec_l3Good.l1 k x0 x3 0)
def spec_l3Good.l1 : Nat → List (S30) → Int → Int → Option (Bool)
 | 0, _, _, _ => none
 | k + 1, x0, x3, x4 => if x4 < x3 then (if 0 ≤ x4 then (if x4 < (x0.length : Int) then (if 0 ≤ x3 then (if x3 < (x0.length : Int) then (if ((rd_T30 x0 x4).f1).toList = ((rd_T30 x0 x3).f1).toList then (some false) else (spec_l3Good.l1 k x0 x3 (wrap64 (x4 + 1)))) else (none)) else (none)) else (none)) else (none)) else (spec_l3Good.l0 k x0 (wrap64 (x3 + 1)))
end
def spec_l3Good.f (k : Nat) (l0 : List (S30)) : Option (Bool) := spec_l3Good.l0 k l0 0
def spec_l3Good.T4 : Bool × List (List Nat × List Nat) := (true, [([], []), ([], []), ([0, 1], [0, 1]), ([2], [2]), ([3], [3]), ([4], [4]), ([5, 4], [5]), ([6], [6]), ([7, 6], [6, 7]), ([8, 6, 6], [6, 8]), ([9], [9]), ([9], [9]), ([11, 9], [9, 11]), ([10, 12, 9], [9, 10, 12]), ([13, 9], [9, 13]), ([14, 9], [9, 14]), ([9], [9]), ([9], [9]), ([16, 17, 9], [9, 16, 17]), ([18, 9], [9, 18]), ([19, 9], [9, 19]), ([15, 20, 9], [9, 15, 20]), ([9, 21, 6], [6, 9, 21]), ([6, 22], [6, 22])])
def spec_l3Good.B4 : List Nat := [0, 0, 3, 7, 15, 31, 63, 127, 255, 511, 1023, 1023, 3071, 8191, 16383, 32767, 1023, 1023, 197631, 459775, 984063, 2097151, 4194303, 8388607]
theorem spec_l3Good.tab4 : rtab .any (opsOf Tryd.f29 4) = spec_l3Good.T4 := by kernel_rfl
theorem spec_l3Good.bits4 : waitsOk spec_l3Good.T4.2 spec_l3Good.B4 = true := by kernel_rfl
def spec_l3Good.T9 : Bool × List (List Nat × List Nat) := (true, [([], []), ([], []), ([0, 1], [0, 1]), ([2], [2]), ([3], [3]), ([], []), ([], []), ([5, 6], [5, 6]), ([7], [7]), ([8], [8]), ([4, 9], [4, 9])])
def spec_l3Good.B9 : List Nat := [0, 0, 3, 7, 15, 0, 0, 96, 224, 480, 1023]
theorem spec_l3Good.tab9 : rtab .any (opsOf Tryd.f29 9) = spec_l3Good.T9 := by kernel_rfl
theorem spec_l3Good.bits9 : waitsOk spec_l3Good.T9.2 spec_l3Good.B9 = true := by kernel_rfl
theorem spec_l3Good.calls (k : Nat) (A0 : Option Addr) (c0 : Nat) (l0 : List (S30)) (r : Bool) (w : World) (Cd : Kd.C k30 w A0 l0.length l0) (Ce : l0.length ≤ c0) (h : spec_l3Good.f k l0 = some r) :
  Calls Tryd.prog 29 #[.slice A0 l0.length c0] w fun e w' => e = .returned (.bool r) ∧ Below w.heap.size w w' := by
 have hu30 := Tryd.underlying30; have Bq := Aside0.mk Cd; have Cn := Aside0.mk Ce; clear Cd Ce; have HB := aM (Below.refl w.heap.size w); have H : (spec_l3Good.l0 k l0 0) = some r := h; clear h; have H' := Aside0.mk H; clear H
 go_enter Tryd.func29, Tryd.ntmps29
 go_wp2
 go_loopg [3] k (fun kq v3 w' => ∃ (Aa : Int), v3 = .int .i64 Aa ∧ Aside0 (spec_l3Good.l0 kq l0 Aa = some r) ∧ Aside0 (kq ≤ k) ∧ Aside0 (Below w.heap.size w w'))
 case atStart => exact ⟨(0), Z37, H', ⟨Nat.le_refl _⟩, ⟨Z1⟩⟩
 case round =>
  clear H'; obtain ⟨Aa, rfl, HA, HK1, HB⟩ := hrel; cases gk with
  | zero => exact absurd HA.out (by simp [spec_l3Good.l0])
  | succ k1 =>
   have H := HA.out; clear HA
   simp only [spec_l3Good.l0] at H
   have B6 := Aside0.mk H; clear H
   go_upto_region 2 with (fail)
   go_cut [12] (fun Ck wc => ∃ (kq : Nat) (Bl : Bool), Ck = .bool Bl ∧ Aside0 (spec_l3Good.j1 kq l0 Aa Bl = some r) ∧ Aside0 (kq ≤ k1) ∧ Aside0 (Below w.heap.size w wc))
   case first =>
    have H := B6.out; clear B6
    by_cases c3 : Aa < (l0.length : Int)
    ·rw [if_pos c3] at H
     have c3b0 : decide (Aa < (l0.length : Int)) = true := decide_eq_true c3; clear c3
     (first | rw [c3b0] | (simp only [i64_w, i32_w]; rw [c3b0]) | skip)
     have H' := Aside0.mk H; clear H
     go_wp2
     go_meet
     case rel => exact ⟨_, (decide (Aa ≤ 10)), Z37, H', ⟨Z147⟩, ⟨Z1⟩⟩
    ·rw [if_neg c3] at H
     have c3b0 : decide (Aa < (l0.length : Int)) = false := decide_eq_false c3; clear c3
     (first | rw [c3b0] | (simp only [i64_w, i32_w]; rw [c3b0]) | skip)
     have H' := Aside0.mk H; clear H
     go_wp2
     go_meet
     case rel => exact ⟨_, (false), Z37, H', ⟨Z147⟩, ⟨Z1⟩⟩
   case rest =>
    clear B6; (try clear c2); (try clear p2); (try clear c3); (try clear c3b0); obtain ⟨kq, Bl, rfl, HA, HJ1, HB⟩ := hcut; cases kq with
    | zero => exact absurd HA.out (by simp [spec_l3Good.j1])
    | succ Bg =>
     have H := HA.out; clear HA
     simp only [spec_l3Good.j1] at H
     by_cases c4 : Bl = true
     ·subst c4
      have H1 : (if 0 ≤ Aa then (if Aa < (l0.length : Int) then ((spec_l3One.f Bg ((rd_T30 l0 Aa).f0) ((rd_T30 l0 Aa).f1) ((rd_T30 l0 Aa).f2) ((rd_T30 l0 Aa).f3) ((rd_T30 l0 Aa).f4)).bind fun Br => (if Br = true then (if Aa > 0 then (if 0 ≤ (wrap64 (Aa - 1)) then (if (wrap64 (Aa - 1)) < (l0.length : Int) then (spec_l3Good.j2 Bg l0 Aa (decide (((rd_T30 l0 (wrap64 (Aa - 1))).f0) ≥ ((rd_T30 l0 Aa).f0)))) else (none)) else (none)) else (spec_l3Good.j2 Bg l0 Aa false)) else (spec_l3Good.j2 Bg l0 Aa true))) else (none)) else (none)) = some r := by rw [if_pos rfl] at H; exact H
      clear H; have H := H1; clear H1; have B8 := Aside0.mk H; clear H
      go_upto_region 4 with (fail)
      go_cut [38] (fun Cl wc => ∃ (kq : Nat) (Bm : Bool), Cl = .bool Bm ∧ Aside0 (spec_l3Good.j2 kq l0 Aa Bm = some r) ∧ Aside0 (kq ≤ Bg) ∧ Aside0 (Below w.heap.size w wc))
      case first =>
       have H := B8.out; clear B8
       by_cases c6 : 0 ≤ Aa
       ·rw [if_pos c6] at H
        have c6b0 : decide (0 ≤ Aa) = true := decide_eq_true c6; clear c6
        (first | rw [c6b0] | (simp only [i64_w, i32_w]; rw [c6b0]) | skip)
        by_cases c7 : Aa < (l0.length : Int)
        ·rw [if_pos c7] at H
         have c7b0 : decide (Aa < (l0.length : Int)) = true := decide_eq_true c7; clear c7; replace H := Option.bind_eq_some_iff.mp H; obtain ⟨Br, Cf, H⟩ := H; replace H : (if Br = true then (if Aa > 0 then (if 0 ≤ (wrap64 (Aa - 1)) then (if (wrap64 (Aa - 1)) < (l0.length : Int) then (spec_l3Good.j2 Bg l0 Aa (decide (((rd_T30 l0 (wrap64 (Aa - 1))).f0) ≥ ((rd_T30 l0 Aa).f0)))) else (none)) else (none)) else (spec_l3Good.j2 Bg l0 Aa false)) else (spec_l3Good.j2 Bg l0 Aa true)) = some r := H; have A8 := Aside0.mk Cf; clear Cf
         by_cases c9 : Br = true
         ·subst c9
          have H1 : (if Aa > 0 then (if 0 ≤ (wrap64 (Aa - 1)) then (if (wrap64 (Aa - 1)) < (l0.length : Int) then (spec_l3Good.j2 Bg l0 Aa (decide (((rd_T30 l0 (wrap64 (Aa - 1))).f0) ≥ ((rd_T30 l0 Aa).f0)))) else (none)) else (none)) else (spec_l3Good.j2 Bg l0 Aa false)) = some r := by rw [if_pos rfl] at H; exact H
          clear H; have H := H1; clear H1
          by_cases Bs : Aa > 0
          ·rw [if_pos Bs] at H
           have c10b0 : decide (0 < Aa) = true := decide_eq_true Bs; clear Bs; obtain ⟨ji11, hji11⟩ : ∃ j_ : Int, (wrap64 (Aa - 1)) = j_ := ⟨_, rfl⟩
           replace H : (if 0 ≤ (ji11) then (if (ji11) < (l0.length : Int) then (spec_l3Good.j2 Bg l0 Aa (decide (((rd_T30 l0 (ji11)).f0) ≥ ((rd_T30 l0 Aa).f0)))) else (none)) else (none)) = some r := by first | (rw [hji11] at H; exact H) | (simp only [hji11] at H ⊢; exact H)
           (try rw [hji11] at A8)
           have hji11w : (IntKind.i64.wrap (Aa - 1)) = ji11 := (i64_w _).trans hji11
           by_cases Bv : 0 ≤ (ji11)
           ·rw [if_pos Bv] at H
            have c12b0 : decide (0 ≤ (ji11)) = true := decide_eq_true Bv; clear Bv
            by_cases Bw : (ji11) < (l0.length : Int)
            ·rw [if_pos Bw] at H
             have c13b0 : decide ((ji11) < (l0.length : Int)) = true := decide_eq_true Bw; clear Bw; have H' := Aside0.mk H; clear H
             try go_wp2
             replace HB := aM (below_drew1 HB.out); have Bd : 0 ≤ (Aa : Int) := of_decide_eq_true Z25; have Bf : Aa < (l0.length : Int) := of_decide_eq_true Z25; obtain ⟨ad117, e117, Ac, Ad, Ae, Af, Ag⟩ := at_T30 Bq.out Aa Bd Bf; have hw117_4 := Ag; have hw117_3 := Af; have hw117_2 := Ae; have hw117_1 := Ad; have hw117_0 := Ac; cases e117; replace Ac := (HB.out.cell (World.block_lt_of_cell? w _ Ac)).trans Ac; replace Ad := (HB.out.cell (World.block_lt_of_cell? w _ Ad)).trans Ad; replace Ae := (HB.out.cell (World.block_lt_of_cell? w _ Ae)).trans Ae; replace Af := (HB.out.cell (World.block_lt_of_cell? w _ Af)).trans Af; replace Ag := (HB.out.cell (World.block_lt_of_cell? w _ Ag)).trans Ag; replace Bd := eq_true Bd; replace Bf := eq_true Bf; have Bt : 0 ≤ ((ji11) : Int) := of_decide_eq_true Z25; have Bn : (ji11) < (l0.length : Int) := of_decide_eq_true Z25; obtain ⟨ad119, e119, Ar, Au, Av, Aw, Ax⟩ := at_T30 Bq.out (ji11) Bt Bn; have hw119_4 := Ax; have hw119_3 := Aw; have hw119_2 := Av; have hw119_1 := Au; have hw119_0 := Ar; obtain rfl : ad117 = ad119 := (by injection e119); replace Ar := (HB.out.cell (World.block_lt_of_cell? w _ Ar)).trans Ar; replace Au := (HB.out.cell (World.block_lt_of_cell? w _ Au)).trans Au; replace Av := (HB.out.cell (World.block_lt_of_cell? w _ Av)).trans Av; replace Aw := (HB.out.cell (World.block_lt_of_cell? w _ Aw)).trans Aw; replace Ax := (HB.out.cell (World.block_lt_of_cell? w _ Ax)).trans Ax; replace Bt := eq_true Bt; replace Bn := eq_true Bn; have Bo : 0 ≤ (Aa : Int) := of_decide_eq_true Z25; have Bp : Aa < (l0.length : Int) := of_decide_eq_true Z25; obtain ⟨ad120, e120, Ay, Az, Ba, Bb, Bc⟩ := at_T30 Bq.out Aa Bo Bp; have hw120_4 := Bc; have hw120_3 := Bb; have hw120_2 := Ba; have hw120_1 := Az; have hw120_0 := Ay; obtain rfl : ad117 = ad120 := (by injection e120); replace Ay := (HB.out.cell (World.block_lt_of_cell? w _ Ay)).trans Ay; replace Az := (HB.out.cell (World.block_lt_of_cell? w _ Az)).trans Az; replace Ba := (HB.out.cell (World.block_lt_of_cell? w _ Ba)).trans Ba; replace Bb := (HB.out.cell (World.block_lt_of_cell? w _ Bb)).trans Bb; replace Bc := (HB.out.cell (World.block_lt_of_cell? w _ Bc)).trans Bc; replace Bo := eq_true Bo; replace Bp := eq_true Bp; refine start_ (n := 24) (S := fun w' => w'.cell? (ad117.add ((Aa).toNat * 5)) = some (.int .i64 ((rd_T30 l0 Aa).f0)) ∧ w'.cell? ⟨(ad117.add ((Aa).toNat * 5)).block, (ad117.add ((Aa).toNat * 5)).off + 1, none⟩ = some (.string ((rd_T30 l0 Aa).f1)) ∧ w'.cell? ⟨(ad117.add ((Aa).toNat * 5)).block, (ad117.add ((Aa).toNat * 5)).off + 2, none⟩ = some (.int .i64 ((rd_T30 l0 Aa).f2)) ∧ w'.cell? ⟨(ad117.add ((Aa).toNat * 5)).block, (ad117.add ((Aa).toNat * 5)).off + 3, none⟩ = some (.int .i64 ((rd_T30 l0 Aa).f3)) ∧ w'.cell? ⟨(ad117.add ((Aa).toNat * 5)).block, (ad117.add ((Aa).toNat * 5)).off + 4, none⟩ = some (.int .i64 ((rd_T30 l0 Aa).f4)) ∧ w'.cell? (ad117.add (((ji11)).toNat * 5)) = some (.int .i64 ((rd_T30 l0 (ji11)).f0)) ∧ w'.cell? ⟨(ad117.add (((ji11)).toNat * 5)).block, (ad117.add (((ji11)).toNat * 5)).off + 1, none⟩ = some (.string ((rd_T30 l0 (ji11)).f1)) ∧ w'.cell? ⟨(ad117.add (((ji11)).toNat * 5)).block, (ad117.add (((ji11)).toNat * 5)).off + 2, none⟩ = some (.int .i64 ((rd_T30 l0 (ji11)).f2)) ∧ w'.cell? ⟨(ad117.add (((ji11)).toNat * 5)).block, (ad117.add (((ji11)).toNat * 5)).off + 3, none⟩ = some (.int .i64 ((rd_T30 l0 (ji11)).f3)) ∧ w'.cell? ⟨(ad117.add (((ji11)).toNat * 5)).block, (ad117.add (((ji11)).toNat * 5)).off + 4, none⟩ = some (.int .i64 ((rd_T30 l0 (ji11)).f4)) ∧ w'.cell? (ad117.add ((Aa).toNat * 5)) = some (.int .i64 ((rd_T30 l0 Aa).f0)) ∧ w'.cell? ⟨(ad117.add ((Aa).toNat * 5)).block, (ad117.add ((Aa).toNat * 5)).off + 1, none⟩ = some (.string ((rd_T30 l0 Aa).f1)) ∧ w'.cell? ⟨(ad117.add ((Aa).toNat * 5)).block, (ad117.add ((Aa).toNat * 5)).off + 2, none⟩ = some (.int .i64 ((rd_T30 l0 Aa).f2)) ∧ w'.cell? ⟨(ad117.add ((Aa).toNat * 5)).block, (ad117.add ((Aa).toNat * 5)).off + 3, none⟩ = some (.int .i64 ((rd_T30 l0 Aa).f3)) ∧ w'.cell? ⟨(ad117.add ((Aa).toNat * 5)).block, (ad117.add ((Aa).toNat * 5)).off + 4, none⟩ = some (.int .i64 ((rd_T30 l0 Aa).f4))) (ds := []) #[false, false, false, false, false, false, false, false, false, false, false, false, false, false, false, false, false, false, false, false, false, false, false, false] Z52 rfl rfl ⟨((HB.out.cell (World.block_lt_of_cell? w _ hw117_0)).trans hw117_0), ((HB.out.cell (World.block_lt_of_cell? w _ hw117_1)).trans hw117_1), ((HB.out.cell (World.block_lt_of_cell? w _ hw117_2)).trans hw117_2), ((HB.out.cell (World.block_lt_of_cell? w _ hw117_3)).trans hw117_3), ((HB.out.cell (World.block_lt_of_cell? w _ hw117_4)).trans hw117_4), ((HB.out.cell (World.block_lt_of_cell? w _ hw119_0)).trans hw119_0), ((HB.out.cell (World.block_lt_of_cell? w _ hw119_1)).trans hw119_1), ((HB.out.cell (World.block_lt_of_cell? w _ hw119_2)).trans hw119_2), ((HB.out.cell (World.block_lt_of_cell? w _ hw119_3)).trans hw119_3), ((HB.out.cell (World.block_lt_of_cell? w _ hw119_4)).trans hw119_4), ((HB.out.cell (World.block_lt_of_cell? w _ hw120_0)).trans hw120_0), ((HB.out.cell (World.block_lt_of_cell? w _ hw120_1)).trans hw120_1), ((HB.out.cell (World.block_lt_of_cell? w _ hw120_2)).trans hw120_2), ((HB.out.cell (World.block_lt_of_cell? w _ hw120_3)).trans hw120_3), ((HB.out.cell (World.block_lt_of_cell? w _ hw120_4)).trans hw120_4)⟩ (fun hHeld => ?_); refine with_tabW spec_l3Good.tab4 spec_l3Good.bits4 (fun HT_ HW_ => ?_)
             generalize wc.drew = Co at HB Ac Ad Ae Af Ag Ar Au Av Aw Ax Ay Az Ba Bb Bc hHeld ⊢
             refine puR 0 15 #[true, false, false, false, false, false, false, false, false, false, false, false, false, false, false, false, false, false, false, false, false, false, false, false] HT_ rfl rfl ?_; refine puR 1 16 #[true, true, false, false, false, false, false, false, false, false, false, false, false, false, false, false, false, false, false, false, false, false, false, false] HT_ rfl rfl ?_; refine puR 2 17 #[true, true, true, false, false, false, false, false, false, false, false, false, false, false, false, false, false, false, false, false, false, false, false, false] HT_ rfl rfl ?_; refine taR 3 18 #[true, true, true, true, false, false, false, false, false, false, false, false, false, false, false, false, false, false, false, false, false, false, false, false] HT_ HW_ hHeld rfl rfl ?_; refine one_ (i := 4) (N := some 19) #[true, true, true, true, true, false, false, false, false, false, false, false, false, false, false, false, false, false, false, false, false, false, false, false] rfl rfl (one_of HT_.out Z52) (by decide) (fun K hK => ?_); refine goes_ Tryd.func46 Z52 rfl #[.agg #[.int .i64 ((rd_T30 l0 Aa).f0), .string ((rd_T30 l0 Aa).f1), .int .i64 ((rd_T30 l0 Aa).f2), .int .i64 ((rd_T30 l0 Aa).f3), .int .i64 ((rd_T30 l0 Aa).f4)]] (by rfl) rfl rfl Z28 ?_; (with_reducible refine (spec_l3One.calls Bg ((rd_T30 l0 Aa).f0) ((rd_T30 l0 Aa).f1) ((rd_T30 l0 Aa).f2) ((rd_T30 l0 Aa).f3) ((rd_T30 l0 Aa).f4) true _ A8.out).mono ?_); rintro e Cp ⟨rfl, hb⟩; refine ⟨_, rfl, ?_⟩; replace HB := hbS Z1 hb; (try clear hb); (try clear hb2); (try clear hk); (try clear hi); refine hK.out _ _ (by exact ⟨((HB.out.cell (World.block_lt_of_cell? w _ hw117_0)).trans hw117_0), ((HB.out.cell (World.block_lt_of_cell? w _ hw117_1)).trans hw117_1), ((HB.out.cell (World.block_lt_of_cell? w _ hw117_2)).trans hw117_2), ((HB.out.cell (World.block_lt_of_cell? w _ hw117_3)).trans hw117_3), ((HB.out.cell (World.block_lt_of_cell? w _ hw117_4)).trans hw117_4), ((HB.out.cell (World.block_lt_of_cell? w _ hw119_0)).trans hw119_0), ((HB.out.cell (World.block_lt_of_cell? w _ hw119_1)).trans hw119_1), ((HB.out.cell (World.block_lt_of_cell? w _ hw119_2)).trans hw119_2), ((HB.out.cell (World.block_lt_of_cell? w _ hw119_3)).trans hw119_3), ((HB.out.cell (World.block_lt_of_cell? w _ hw119_4)).trans hw119_4), ((HB.out.cell (World.block_lt_of_cell? w _ hw120_0)).trans hw120_0), ((HB.out.cell (World.block_lt_of_cell? w _ hw120_1)).trans hw120_1), ((HB.out.cell (World.block_lt_of_cell? w _ hw120_2)).trans hw120_2), ((HB.out.cell (World.block_lt_of_cell? w _ hw120_3)).trans hw120_3), ((HB.out.cell (World.block_lt_of_cell? w _ hw120_4)).trans hw120_4)⟩) (fun hHeld => ?_); clear hK K; refine noR 19 ?_; refine puR 5 20 #[true, true, true, true, true, true, false, false, false, false, false, false, false, false, false, false, false, false, false, false, false, false, false, false] HT_ rfl rfl ?_; refine puR 6 21 #[true, true, true, true, true, true, true, false, false, false, false, false, false, false, false, false, false, false, false, false, false, false, false, false] HT_ rfl rfl ?_; refine puR 7 22 #[true, true, true, true, true, true, true, true, false, false, false, false, false, false, false, false, false, false, false, false, false, false, false, false] HT_ rfl rfl ?_; refine puR 8 23 #[true, true, true, true, true, true, true, true, true, false, false, false, false, false, false, false, false, false, false, false, false, false, false, false] HT_ rfl rfl ?_; refine puR 9 24 #[true, true, true, true, true, true, true, true, true, true, false, false, false, false, false, false, false, false, false, false, false, false, false, false] HT_ rfl rfl ?_; refine puR 10 25 #[true, true, true, true, true, true, true, true, true, true, true, false, false, false, false, false, false, false, false, false, false, false, false, false] HT_ rfl rfl ?_; refine puR 11 26 #[true, true, true, true, true, true, true, true, true, true, true, true, false, false, false, false, false, false, false, false, false, false, false, false] HT_ rfl rfl ?_; refine puR 12 27 #[true, true, true, true, true, true, true, true, true, true, true, true, true, false, false, false, false, false, false, false, false, false, false, false] HT_ rfl rfl ?_; refine puR 13 28 #[true, true, true, true, true, true, true, true, true, true, true, true, true, true, false, false, false, false, false, false, false, false, false, false] HT_ rfl rfl ?_; refine puR 14 29 #[true, true, true, true, true, true, true, true, true, true, true, true, true, true, true, false, false, false, false, false, false, false, false, false] HT_ rfl rfl ?_; refine puR 16 31 #[true, true, true, true, true, true, true, true, true, true, true, true, true, true, true, false, true, false, false, false, false, false, false, false] HT_ rfl rfl ?_; refine puR 17 32 #[true, true, true, true, true, true, true, true, true, true, true, true, true, true, true, false, true, true, false, false, false, false, false, false] HT_ rfl rfl ?_; refine puR 18 33 #[true, true, true, true, true, true, true, true, true, true, true, true, true, true, true, false, true, true, true, false, false, false, false, false] HT_ rfl rfl ?_; refine puR 19 34 #[true, true, true, true, true, true, true, true, true, true, true, true, true, true, true, false, true, true, true, true, false, false, false, false] HT_ rfl rfl ?_; refine taR 15 30 #[true, true, true, true, true, true, true, true, true, true, true, true, true, true, true, true, true, true, true, true, false, false, false, false] HT_ HW_ hHeld rfl rfl ?_; refine taR 20 35 #[true, true, true, true, true, true, true, true, true, true, true, true, true, true, true, true, true, true, true, true, true, false, false, false] HT_ HW_ hHeld rfl rfl ?_; refine puR 21 36 #[true, true, true, true, true, true, true, true, true, true, true, true, true, true, true, true, true, true, true, true, true, true, false, false] HT_ rfl rfl ?_; refine puR 22 37 #[true, true, true, true, true, true, true, true, true, true, true, true, true, true, true, true, true, true, true, true, true, true, true, false] HT_ rfl rfl ?_; refine puR 23 38 #[true, true, true, true, true, true, true, true, true, true, true, true, true, true, true, true, true, true, true, true, true, true, true, true] HT_ rfl rfl ?_; refine done_ (done_of HT_.out Z52) ?_
             try go_wp2
             go_meet
             case rel => exact ⟨_, (decide (((rd_T30 l0 (ji11)).f0) ≥ ((rd_T30 l0 Aa).f0))), (by first | rfl | (simp; done) | (simp only [← hji11] <;> (first | rfl | simp)) | (simp [*]; done)), H', ⟨Z129⟩, ⟨Z1⟩⟩
            ·rw [if_neg Bw] at H
             exact absurd H (by simp)
           ·rw [if_neg Bv] at H
            exact absurd H (by simp)
          ·rw [if_neg Bs] at H
           have c10b0 : decide (0 < Aa) = false := decide_eq_false Bs; clear Bs; have H' := Aside0.mk H; clear H
           try go_wp2
           replace HB := aM (below_drew1 HB.out); have Bd : 0 ≤ (Aa : Int) := of_decide_eq_true Z25; have Bf : Aa < (l0.length : Int) := of_decide_eq_true Z25; obtain ⟨ad117, e117, Ac, Ad, Ae, Af, Ag⟩ := at_T30 Bq.out Aa Bd Bf; have hw117_4 := Ag; have hw117_3 := Af; have hw117_2 := Ae; have hw117_1 := Ad; have hw117_0 := Ac; cases e117; replace Ac := (HB.out.cell (World.block_lt_of_cell? w _ Ac)).trans Ac; replace Ad := (HB.out.cell (World.block_lt_of_cell? w _ Ad)).trans Ad; replace Ae := (HB.out.cell (World.block_lt_of_cell? w _ Ae)).trans Ae; replace Af := (HB.out.cell (World.block_lt_of_cell? w _ Af)).trans Af; replace Ag := (HB.out.cell (World.block_lt_of_cell? w _ Ag)).trans Ag; replace Bd := eq_true Bd; replace Bf := eq_true Bf; refine start_ (n := 24) (S := fun w' => w'.cell? (ad117.add ((Aa).toNat * 5)) = some (.int .i64 ((rd_T30 l0 Aa).f0)) ∧ w'.cell? ⟨(ad117.add ((Aa).toNat * 5)).block, (ad117.add ((Aa).toNat * 5)).off + 1, none⟩ = some (.string ((rd_T30 l0 Aa).f1)) ∧ w'.cell? ⟨(ad117.add ((Aa).toNat * 5)).block, (ad117.add ((Aa).toNat * 5)).off + 2, none⟩ = some (.int .i64 ((rd_T30 l0 Aa).f2)) ∧ w'.cell? ⟨(ad117.add ((Aa).toNat * 5)).block, (ad117.add ((Aa).toNat * 5)).off + 3, none⟩ = some (.int .i64 ((rd_T30 l0 Aa).f3)) ∧ w'.cell? ⟨(ad117.add ((Aa).toNat * 5)).block, (ad117.add ((Aa).toNat * 5)).off + 4, none⟩ = some (.int .i64 ((rd_T30 l0 Aa).f4))) (ds := []) #[false, false, false, false, false, false, false, false, false, false, false, false, false, false, false, false, false, false, false, false, false, false, false, false] Z52 rfl rfl ⟨((HB.out.cell (World.block_lt_of_cell? w _ hw117_0)).trans hw117_0), ((HB.out.cell (World.block_lt_of_cell? w _ hw117_1)).trans hw117_1), ((HB.out.cell (World.block_lt_of_cell? w _ hw117_2)).trans hw117_2), ((HB.out.cell (World.block_lt_of_cell? w _ hw117_3)).trans hw117_3), ((HB.out.cell (World.block_lt_of_cell? w _ hw117_4)).trans hw117_4)⟩ (fun hHeld => ?_); refine with_tabW spec_l3Good.tab4 spec_l3Good.bits4 (fun HT_ HW_ => ?_)
           generalize wc.drew = Cq at HB Ac Ad Ae Af Ag hHeld ⊢
           refine puR 0 15 #[true, false, false, false, false, false, false, false, false, false, false, false, false, false, false, false, false, false, false, false, false, false, false, false] HT_ rfl rfl ?_; refine puR 1 16 #[true, true, false, false, false, false, false, false, false, false, false, false, false, false, false, false, false, false, false, false, false, false, false, false] HT_ rfl rfl ?_; refine puR 2 17 #[true, true, true, false, false, false, false, false, false, false, false, false, false, false, false, false, false, false, false, false, false, false, false, false] HT_ rfl rfl ?_; refine taR 3 18 #[true, true, true, true, false, false, false, false, false, false, false, false, false, false, false, false, false, false, false, false, false, false, false, false] HT_ HW_ hHeld rfl rfl ?_; refine one_ (i := 4) (N := some 19) #[true, true, true, true, true, false, false, false, false, false, false, false, false, false, false, false, false, false, false, false, false, false, false, false] rfl rfl (one_of HT_.out Z52) (by decide) (fun K hK => ?_); refine goes_ Tryd.func46 Z52 rfl #[.agg #[.int .i64 ((rd_T30 l0 Aa).f0), .string ((rd_T30 l0 Aa).f1), .int .i64 ((rd_T30 l0 Aa).f2), .int .i64 ((rd_T30 l0 Aa).f3), .int .i64 ((rd_T30 l0 Aa).f4)]] (by rfl) rfl rfl Z28 ?_; (with_reducible refine (spec_l3One.calls Bg ((rd_T30 l0 Aa).f0) ((rd_T30 l0 Aa).f1) ((rd_T30 l0 Aa).f2) ((rd_T30 l0 Aa).f3) ((rd_T30 l0 Aa).f4) true _ A8.out).mono ?_); rintro e Cr ⟨rfl, hb⟩; refine ⟨_, rfl, ?_⟩; replace HB := hbS Z1 hb; (try clear hb); (try clear hb2); (try clear hk); (try clear hi); refine hK.out _ _ Z86 (fun hHeld => ?_); clear hK K; refine noR 19 ?_; refine puR 5 20 #[true, true, true, true, true, true, false, false, false, false, false, false, false, false, false, false, false, false, false, false, false, false, false, false] HT_ rfl rfl ?_; refine puR 6 21 #[true, true, true, true, true, true, true, false, false, false, false, false, false, false, false, false, false, false, false, false, false, false, false, false] HT_ rfl rfl ?_; refine puR 7 22 #[true, true, true, true, true, true, true, true, false, false, false, false, false, false, false, false, false, false, false, false, false, false, false, false] HT_ rfl rfl ?_; refine puR 8 23 #[true, true, true, true, true, true, true, true, true, false, false, false, false, false, false, false, false, false, false, false, false, false, false, false] HT_ rfl rfl ?_; refine puR 9 24 #[true, true, true, true, true, true, true, true, true, true, false, false, false, false, false, false, false, false, false, false, false, false, false, false] HT_ rfl rfl ?_; refine pure_ (i := 10) (N := some 25) (v := undef) (a' := ?_) #[true, true, true, true, true, true, true, true, true, true, true, false, false, false, false, false, false, false, false, false, false, false, false, false] rfl rfl (any_of HT_.out Z52) (fun _ _ _ h => h) (Or.inr ⟨by rfl, rfl⟩) ?_ ?_
           rotate_left
           ·exact Z40
           refine pure_ (i := 11) (N := some 26) (v := undef) (a' := ?_) #[true, true, true, true, true, true, true, true, true, true, true, true, false, false, false, false, false, false, false, false, false, false, false, false] rfl rfl (any_of HT_.out Z52) (fun _ _ _ h => h) (Or.inr ⟨by rfl, rfl⟩) ?_ ?_
           rotate_left
           ·exact Z40
           refine pure_ (i := 12) (N := some 27) (v := undef) (a' := ?_) #[true, true, true, true, true, true, true, true, true, true, true, true, true, false, false, false, false, false, false, false, false, false, false, false] rfl rfl (any_of HT_.out Z52) (fun _ _ _ h => h) (Or.inr ⟨by rfl, rfl⟩) ?_ ?_
           rotate_left
           ·exact Z40
           refine pure_ (i := 13) (N := some 28) (v := undef) (a' := ?_) #[true, true, true, true, true, true, true, true, true, true, true, true, true, true, false, false, false, false, false, false, false, false, false, false] rfl rfl (any_of HT_.out Z52) (fun _ _ _ h => h) (Or.inr ⟨by rfl, rfl⟩) ?_ ?_
           rotate_left
           ·exact Z40
           refine pure_ (i := 14) (N := some 29) (v := undef) (a' := ?_) #[true, true, true, true, true, true, true, true, true, true, true, true, true, true, true, false, false, false, false, false, false, false, false, false] rfl rfl (any_of HT_.out Z52) (fun _ _ _ h => h) (Or.inr ⟨by rfl, rfl⟩) ?_ ?_
           rotate_left
           ·exact Z40
           refine pure_ (i := 15) (N := some 30) (v := undef) (a' := ?_) #[true, true, true, true, true, true, true, true, true, true, true, true, true, true, true, true, false, false, false, false, false, false, false, false] rfl rfl (any_of HT_.out Z52) (fun _ _ _ h => h) (Or.inr ⟨by rfl, rfl⟩) ?_ ?_
           rotate_left
           ·exact Z40
           refine pure_ (i := 16) (N := some 31) (v := undef) (a' := ?_) #[true, true, true, true, true, true, true, true, true, true, true, true, true, true, true, true, true, false, false, false, false, false, false, false] rfl rfl (any_of HT_.out Z52) (fun _ _ _ h => h) (Or.inr ⟨by rfl, rfl⟩) ?_ ?_
           rotate_left
           ·exact Z40
           refine pure_ (i := 17) (N := some 32) (v := undef) (a' := ?_) #[true, true, true, true, true, true, true, true, true, true, true, true, true, true, true, true, true, true, false, false, false, false, false, false] rfl rfl (any_of HT_.out Z52) (fun _ _ _ h => h) (Or.inr ⟨by rfl, rfl⟩) ?_ ?_
           rotate_left
           ·exact Z40
           refine pure_ (i := 18) (N := some 33) (v := undef) (a' := ?_) #[true, true, true, true, true, true, true, true, true, true, true, true, true, true, true, true, true, true, true, false, false, false, false, false] rfl rfl (any_of HT_.out Z52) (fun _ _ _ h => h) (Or.inr ⟨by rfl, rfl⟩) ?_ ?_
           rotate_left
           ·exact Z40
           refine pure_ (i := 19) (N := some 34) (v := undef) (a' := ?_) #[true, true, true, true, true, true, true, true, true, true, true, true, true, true, true, true, true, true, true, true, false, false, false, false] rfl rfl (any_of HT_.out Z52) (fun _ _ _ h => h) (Or.inr ⟨by rfl, rfl⟩) ?_ ?_
           rotate_left
           ·exact Z40
           refine pure_ (i := 20) (N := some 35) (v := undef) (a' := ?_) #[true, true, true, true, true, true, true, true, true, true, true, true, true, true, true, true, true, true, true, true, true, false, false, false] rfl rfl (any_of HT_.out Z52) (fun _ _ _ h => h) (Or.inr ⟨by rfl, rfl⟩) ?_ ?_
           rotate_left
           ·exact Z40
           refine pure_ (i := 21) (N := some 36) (v := undef) (a' := ?_) #[true, true, true, true, true, true, true, true, true, true, true, true, true, true, true, true, true, true, true, true, true, true, false, false] rfl rfl (any_of HT_.out Z52) (fun _ _ _ h => h) (Or.inr ⟨by rfl, rfl⟩) ?_ ?_
           rotate_left
           ·exact Z40
           refine puR 22 37 #[true, true, true, true, true, true, true, true, true, true, true, true, true, true, true, true, true, true, true, true, true, true, true, false] HT_ rfl rfl ?_; refine puR 23 38 #[true, true, true, true, true, true, true, true, true, true, true, true, true, true, true, true, true, true, true, true, true, true, true, true] HT_ rfl rfl ?_; refine done_ (done_of HT_.out Z52) ?_
           try go_wp2
           go_meet
           case rel => exact ⟨_, (false), Z37, H', ⟨Z129⟩, ⟨Z1⟩⟩
         ·replace c9 := Bool.eq_false_iff.mpr c9
          subst c9
          have H1 : (spec_l3Good.j2 Bg l0 Aa true) = some r := by rw [if_neg (show ¬ (false = true) by decide)] at H; exact H
          clear H; have H := H1; clear H1; have H' := Aside0.mk H; clear H
          try go_wp2
          replace HB := aM (below_drew1 HB.out); have Bd : 0 ≤ (Aa : Int) := of_decide_eq_true Z25; have Bf : Aa < (l0.length : Int) := of_decide_eq_true Z25; obtain ⟨ad117, e117, Ac, Ad, Ae, Af, Ag⟩ := at_T30 Bq.out Aa Bd Bf; have hw117_4 := Ag; have hw117_3 := Af; have hw117_2 := Ae; have hw117_1 := Ad; have hw117_0 := Ac; cases e117; replace Ac := (HB.out.cell (World.block_lt_of_cell? w _ Ac)).trans Ac; replace Ad := (HB.out.cell (World.block_lt_of_cell? w _ Ad)).trans Ad; replace Ae := (HB.out.cell (World.block_lt_of_cell? w _ Ae)).trans Ae; replace Af := (HB.out.cell (World.block_lt_of_cell? w _ Af)).trans Af; replace Ag := (HB.out.cell (World.block_lt_of_cell? w _ Ag)).trans Ag; replace Bd := eq_true Bd; replace Bf := eq_true Bf; refine start_ (n := 24) (S := fun w' => w'.cell? (ad117.add ((Aa).toNat * 5)) = some (.int .i64 ((rd_T30 l0 Aa).f0)) ∧ w'.cell? ⟨(ad117.add ((Aa).toNat * 5)).block, (ad117.add ((Aa).toNat * 5)).off + 1, none⟩ = some (.string ((rd_T30 l0 Aa).f1)) ∧ w'.cell? ⟨(ad117.add ((Aa).toNat * 5)).block, (ad117.add ((Aa).toNat * 5)).off + 2, none⟩ = some (.int .i64 ((rd_T30 l0 Aa).f2)) ∧ w'.cell? ⟨(ad117.add ((Aa).toNat * 5)).block, (ad117.add ((Aa).toNat * 5)).off + 3, none⟩ = some (.int .i64 ((rd_T30 l0 Aa).f3)) ∧ w'.cell? ⟨(ad117.add ((Aa).toNat * 5)).block, (ad117.add ((Aa).toNat * 5)).off + 4, none⟩ = some (.int .i64 ((rd_T30 l0 Aa).f4))) (ds := []) #[false, false, false, false, false, false, false, false, false, false, false, false, false, false, false, false, false, false, false, false, false, false, false, false] Z52 rfl rfl ⟨((HB.out.cell (World.block_lt_of_cell? w _ hw117_0)).trans hw117_0), ((HB.out.cell (World.block_lt_of_cell? w _ hw117_1)).trans hw117_1), ((HB.out.cell (World.block_lt_of_cell? w _ hw117_2)).trans hw117_2), ((HB.out.cell (World.block_lt_of_cell? w _ hw117_3)).trans hw117_3), ((HB.out.cell (World.block_lt_of_cell? w _ hw117_4)).trans hw117_4)⟩ (fun hHeld => ?_); refine with_tabW spec_l3Good.tab4 spec_l3Good.bits4 (fun HT_ HW_ => ?_)
          generalize wc.drew = Cs at HB Ac Ad Ae Af Ag hHeld ⊢
          refine puR 0 15 #[true, false, false, false, false, false, false, false, false, false, false, false, false, false, false, false, false, false, false, false, false, false, false, false] HT_ rfl rfl ?_; refine puR 1 16 #[true, true, false, false, false, false, false, false, false, false, false, false, false, false, false, false, false, false, false, false, false, false, false, false] HT_ rfl rfl ?_; refine puR 2 17 #[true, true, true, false, false, false, false, false, false, false, false, false, false, false, false, false, false, false, false, false, false, false, false, false] HT_ rfl rfl ?_; refine taR 3 18 #[true, true, true, true, false, false, false, false, false, false, false, false, false, false, false, false, false, false, false, false, false, false, false, false] HT_ HW_ hHeld rfl rfl ?_; refine one_ (i := 4) (N := some 19) #[true, true, true, true, true, false, false, false, false, false, false, false, false, false, false, false, false, false, false, false, false, false, false, false] rfl rfl (one_of HT_.out Z52) (by decide) (fun K hK => ?_); refine goes_ Tryd.func46 Z52 rfl #[.agg #[.int .i64 ((rd_T30 l0 Aa).f0), .string ((rd_T30 l0 Aa).f1), .int .i64 ((rd_T30 l0 Aa).f2), .int .i64 ((rd_T30 l0 Aa).f3), .int .i64 ((rd_T30 l0 Aa).f4)]] (by rfl) rfl rfl Z28 ?_; (with_reducible refine (spec_l3One.calls Bg ((rd_T30 l0 Aa).f0) ((rd_T30 l0 Aa).f1) ((rd_T30 l0 Aa).f2) ((rd_T30 l0 Aa).f3) ((rd_T30 l0 Aa).f4) false _ A8.out).mono ?_); rintro e Ct ⟨rfl, hb⟩; refine ⟨_, rfl, ?_⟩; replace HB := hbS Z1 hb; (try clear hb); (try clear hb2); (try clear hk); (try clear hi); refine hK.out _ _ Z86 (fun hHeld => ?_); clear hK K; refine noR 19 ?_; refine puR 5 20 #[true, true, true, true, true, true, false, false, false, false, false, false, false, false, false, false, false, false, false, false, false, false, false, false] HT_ rfl rfl ?_; refine puR 6 21 #[true, true, true, true, true, true, true, false, false, false, false, false, false, false, false, false, false, false, false, false, false, false, false, false] HT_ rfl rfl ?_; refine pure_ (i := 7) (N := some 22) (v := undef) (a' := ?_) #[true, true, true, true, true, true, true, true, false, false, false, false, false, false, false, false, false, false, false, false, false, false, false, false] rfl rfl (any_of HT_.out Z52) (fun _ _ _ h => h) (Or.inr ⟨by rfl, rfl⟩) ?_ ?_
          rotate_left
          ·exact Z40
          refine pure_ (i := 8) (N := some 23) (v := undef) (a' := ?_) #[true, true, true, true, true, true, true, true, true, false, false, false, false, false, false, false, false, false, false, false, false, false, false, false] rfl rfl (any_of HT_.out Z52) (fun _ _ _ h => h) (Or.inr ⟨by rfl, rfl⟩) ?_ ?_
          rotate_left
          ·exact Z40
          refine pure_ (i := 9) (N := some 24) (v := undef) (a' := ?_) #[true, true, true, true, true, true, true, true, true, true, false, false, false, false, false, false, false, false, false, false, false, false, false, false] rfl rfl (any_of HT_.out Z52) (fun _ _ _ h => h) (Or.inr ⟨by rfl, rfl⟩) ?_ ?_
          rotate_left
          ·exact Z40
          refine pure_ (i := 10) (N := some 25) (v := undef) (a' := ?_) #[true, true, true, true, true, true, true, true, true, true, true, false, false, false, false, false, false, false, false, false, false, false, false, false] rfl rfl (any_of HT_.out Z52) (fun _ _ _ h => h) (Or.inr ⟨by rfl, rfl⟩) ?_ ?_
          rotate_left
          ·exact Z40
          refine pure_ (i := 11) (N := some 26) (v := undef) (a' := ?_) #[true, true, true, true, true, true, true, true, true, true, true, true, false, false, false, false, false, false, false, false, false, false, false, false] rfl rfl (any_of HT_.out Z52) (fun _ _ _ h => h) (Or.inr ⟨by rfl, rfl⟩) ?_ ?_
          rotate_left
          ·exact Z40
          refine pure_ (i := 12) (N := some 27) (v := undef) (a' := ?_) #[true, true, true, true, true, true, true, true, true, true, true, true, true, false, false, false, false, false, false, false, false, false, false, false] rfl rfl (any_of HT_.out Z52) (fun _ _ _ h => h) (Or.inr ⟨by rfl, rfl⟩) ?_ ?_
          rotate_left
          ·exact Z40
          refine pure_ (i := 13) (N := some 28) (v := undef) (a' := ?_) #[true, true, true, true, true, true, true, true, true, true, true, true, true, true, false, false, false, false, false, false, false, false, false, false] rfl rfl (any_of HT_.out Z52) (fun _ _ _ h => h) (Or.inr ⟨by rfl, rfl⟩) ?_ ?_
          rotate_left
          ·exact Z40
          refine pure_ (i := 14) (N := some 29) (v := undef) (a' := ?_) #[true, true, true, true, true, true, true, true, true, true, true, true, true, true, true, false, false, false, false, false, false, false, false, false] rfl rfl (any_of HT_.out Z52) (fun _ _ _ h => h) (Or.inr ⟨by rfl, rfl⟩) ?_ ?_
          rotate_left
          ·exact Z40
          refine pure_ (i := 15) (N := some 30) (v := undef) (a' := ?_) #[true, true, true, true, true, true, true, true, true, true, true, true, true, true, true, true, false, false, false, false, false, false, false, false] rfl rfl (any_of HT_.out Z52) (fun _ _ _ h => h) (Or.inr ⟨by rfl, rfl⟩) ?_ ?_
          rotate_left
          ·exact Z40
          refine pure_ (i := 16) (N := some 31) (v := undef) (a' := ?_) #[true, true, true, true, true, true, true, true, true, true, true, true, true, true, true, true, true, false, false, false, false, false, false, false] rfl rfl (any_of HT_.out Z52) (fun _ _ _ h => h) (Or.inr ⟨by rfl, rfl⟩) ?_ ?_
          rotate_left
          ·exact Z40
          refine pure_ (i := 17) (N := some 32) (v := undef) (a' := ?_) #[true, true, true, true, true, true, true, true, true, true, true, true, true, true, true, true, true, true, false, false, false, false, false, false] rfl rfl (any_of HT_.out Z52) (fun _ _ _ h => h) (Or.inr ⟨by rfl, rfl⟩) ?_ ?_
          rotate_left
          ·exact Z40
          refine pure_ (i := 18) (N := some 33) (v := undef) (a' := ?_) #[true, true, true, true, true, true, true, true, true, true, true, true, true, true, true, true, true, true, true, false, false, false, false, false] rfl rfl (any_of HT_.out Z52) (fun _ _ _ h => h) (Or.inr ⟨by rfl, rfl⟩) ?_ ?_
          rotate_left
          ·exact Z40
          refine pure_ (i := 19) (N := some 34) (v := undef) (a' := ?_) #[true, true, true, true, true, true, true, true, true, true, true, true, true, true, true, true, true, true, true, true, false, false, false, false] rfl rfl (any_of HT_.out Z52) (fun _ _ _ h => h) (Or.inr ⟨by rfl, rfl⟩) ?_ ?_
          rotate_left
          ·exact Z40
          refine pure_ (i := 20) (N := some 35) (v := undef) (a' := ?_) #[true, true, true, true, true, true, true, true, true, true, true, true, true, true, true, true, true, true, true, true, true, false, false, false] rfl rfl (any_of HT_.out Z52) (fun _ _ _ h => h) (Or.inr ⟨by rfl, rfl⟩) ?_ ?_
          rotate_left
          ·exact Z40
          refine pure_ (i := 21) (N := some 36) (v := undef) (a' := ?_) #[true, true, true, true, true, true, true, true, true, true, true, true, true, true, true, true, true, true, true, true, true, true, false, false] rfl rfl (any_of HT_.out Z52) (fun _ _ _ h => h) (Or.inr ⟨by rfl, rfl⟩) ?_ ?_
          rotate_left
          ·exact Z40
          refine pure_ (i := 22) (N := some 37) (v := undef) (a' := ?_) #[true, true, true, true, true, true, true, true, true, true, true, true, true, true, true, true, true, true, true, true, true, true, true, false] rfl rfl (any_of HT_.out Z52) (fun _ _ _ h => h) (Or.inr ⟨by rfl, rfl⟩) ?_ ?_
          rotate_left
          ·exact Z40
          refine puR 23 38 #[true, true, true, true, true, true, true, true, true, true, true, true, true, true, true, true, true, true, true, true, true, true, true, true] HT_ rfl rfl ?_; refine done_ (done_of HT_.out Z52) ?_
          try go_wp2
          go_meet
          case rel => exact ⟨_, (true), Z37, H', ⟨Z129⟩, ⟨Z1⟩⟩
        ·rw [if_neg c7] at H
         exact absurd H (by simp)
       ·rw [if_neg c6] at H
        exact absurd H (by simp)
      case rest =>
       clear B8; (try clear c1); (try clear p1); (try clear q1); (try clear Cm); (try clear p2); (try clear c4); (try clear c6); (try clear c7); (try clear c9); (try clear Bs); (try clear c10b0); (try clear Cg); (try clear Ch); (try clear Ca); (try clear Bv); (try clear Ci); (try clear Cj); (try clear Cb); (try clear Bw); (try clear Ac); (try clear Ad); (try clear Ae); (try clear Af); (try clear Ag); (try clear Ar); (try clear Au); (try clear Av); (try clear Aw); (try clear Ax); (try clear Ay); (try clear Az); (try clear Ba); (try clear Bb); (try clear Bc); (try clear Bd); (try clear Bo); (try clear Bf); (try clear Bn); (try clear Bp); obtain ⟨kq, Bm, rfl, HA, HJ4, HB⟩ := hcut; cases kq with
       | zero => exact absurd HA.out (by simp [spec_l3Good.j2])
       | succ Cc =>
        have H := HA.out; clear HA
        simp only [spec_l3Good.j2] at H
        by_cases Bz : Bm = true
        ·subst Bz
         have H1 : (some false) = some r := by rw [if_pos rfl] at H; exact H
         clear H; have H := H1; clear H1; obtain rfl := Option.some.inj H
         go_wp2
         go_ret
         exact ⟨Z39, Z1⟩
        ·replace Bz := Bool.eq_false_iff.mpr Bz
         subst Bz
         have H1 : (spec_l3Good.l1 Cc l0 Aa 0) = some r := by rw [if_neg (show ¬ (false = true) by decide)] at H; exact H
         clear H; have H := H1; clear H1; have H' := Aside0.mk H; clear H
         go_wp2
         go_loopg [4] Cc (fun kq v4 w' => ∃ (Ab : Int), v4 = .int .i64 Ab ∧ Aside0 (spec_l3Good.l1 kq l0 Aa Ab = some r) ∧ Aside0 (kq ≤ Cc) ∧ Aside0 (Below w.heap.size w w'))
         case atStart => exact ⟨(0), Z37, H', ⟨Nat.le_refl _⟩, ⟨Z1⟩⟩
         case round =>
          clear H'; (try clear c1); (try clear p1); (try clear q1); (try clear Cm); (try clear c2); (try clear p2); (try clear c4); (try clear c6); (try clear c7); (try clear c9); (try clear Bs); (try clear c10b0); (try clear Cg); (try clear Ch); (try clear Ca); (try clear Bv); (try clear Ci); (try clear Cj); (try clear Cb); (try clear Bw); (try clear Bz); (try clear Ac); (try clear Ad); (try clear Ae); (try clear Af); (try clear Ag); (try clear Ar); (try clear Au); (try clear Av); (try clear Aw); (try clear Ax); (try clear Ay); (try clear Az); (try clear Ba); (try clear Bb); (try clear Bc); (try clear p1); (try clear Cg); (try clear Bd); (try clear Ci); (try clear Bo); (try clear p2); (try clear q1); (try clear Ch); (try clear Bf); (try clear Bn); (try clear Cj); (try clear Bp); obtain ⟨Ab, rfl, HA, HK4, HB⟩ := hrel; cases gk with
          | zero => exact absurd HA.out (by simp [spec_l3Good.l1])
          | succ k4 =>
           have H := HA.out; clear HA
           simp only [spec_l3Good.l1] at H
           by_cases Bx : Ab < Aa
           ·rw [if_pos Bx] at H
            have c21b0 : decide (Ab < Aa) = true := decide_eq_true Bx; clear Bx
            by_cases B0 : 0 ≤ Ab
            ·rw [if_pos B0] at H
             have c22b0 : decide (0 ≤ Ab) = true := decide_eq_true B0; clear B0
             by_cases B2 : Ab < (l0.length : Int)
             ·rw [if_pos B2] at H
              have c23b0 : decide (Ab < (l0.length : Int)) = true := decide_eq_true B2; clear B2
              by_cases B3 : 0 ≤ Aa
              ·rw [if_pos B3] at H
               have c24b0 : decide (0 ≤ Aa) = true := decide_eq_true B3; clear B3
               by_cases B5 : Aa < (l0.length : Int)
               ·rw [if_pos B5] at H
                have c25b0 : decide (Aa < (l0.length : Int)) = true := decide_eq_true B5; clear B5
                by_cases Bu : ((rd_T30 l0 Ab).f1).toList = ((rd_T30 l0 Aa).f1).toList
                ·rw [if_pos Bu] at H
                 have c26b0 : (((rd_T30 l0 Ab).f1).toList == ((rd_T30 l0 Aa).f1).toList) = true := beq_iff_eq.mpr Bu; have c26b1 : (((rd_T30 l0 Ab).f1).toList != ((rd_T30 l0 Aa).f1).toList) = false := bne_eq_false_iff_eq.mpr Bu; clear Bu; obtain rfl := Option.some.inj H
                 try go_wp2
                 replace HB := aM (below_drew1 HB.out); have Bh : 0 ≤ (Ab : Int) := of_decide_eq_true Z25; have Bi : Ab < (l0.length : Int) := of_decide_eq_true Z25; obtain ⟨ad121, e121, Ah, Ai, Aj, Ak, Al⟩ := at_T30 Bq.out Ab Bh Bi; have hw121_4 := Al; have hw121_3 := Ak; have hw121_2 := Aj; have hw121_1 := Ai; have hw121_0 := Ah; cases e121; replace Ah := (HB.out.cell (World.block_lt_of_cell? w _ Ah)).trans Ah; replace Ai := (HB.out.cell (World.block_lt_of_cell? w _ Ai)).trans Ai; replace Aj := (HB.out.cell (World.block_lt_of_cell? w _ Aj)).trans Aj; replace Ak := (HB.out.cell (World.block_lt_of_cell? w _ Ak)).trans Ak; replace Al := (HB.out.cell (World.block_lt_of_cell? w _ Al)).trans Al; replace Bh := eq_true Bh; replace Bi := eq_true Bi; have Bj : 0 ≤ (Aa : Int) := of_decide_eq_true Z25; have Bk : Aa < (l0.length : Int) := of_decide_eq_true Z25; obtain ⟨ad122, e122, Am, An, Ao, Ap, Aq⟩ := at_T30 Bq.out Aa Bj Bk; have hw122_4 := Aq; have hw122_3 := Ap; have hw122_2 := Ao; have hw122_1 := An; have hw122_0 := Am; obtain rfl : ad121 = ad122 := (by injection e122); replace Am := (HB.out.cell (World.block_lt_of_cell? w _ Am)).trans Am; replace An := (HB.out.cell (World.block_lt_of_cell? w _ An)).trans An; replace Ao := (HB.out.cell (World.block_lt_of_cell? w _ Ao)).trans Ao; replace Ap := (HB.out.cell (World.block_lt_of_cell? w _ Ap)).trans Ap; replace Aq := (HB.out.cell (World.block_lt_of_cell? w _ Aq)).trans Aq; replace Bj := eq_true Bj; replace Bk := eq_true Bk; refine start_ (n := 11) (S := fun w' => w'.cell? (ad121.add ((Ab).toNat * 5)) = some (.int .i64 ((rd_T30 l0 Ab).f0)) ∧ w'.cell? ⟨(ad121.add ((Ab).toNat * 5)).block, (ad121.add ((Ab).toNat * 5)).off + 1, none⟩ = some (.string ((rd_T30 l0 Ab).f1)) ∧ w'.cell? ⟨(ad121.add ((Ab).toNat * 5)).block, (ad121.add ((Ab).toNat * 5)).off + 2, none⟩ = some (.int .i64 ((rd_T30 l0 Ab).f2)) ∧ w'.cell? ⟨(ad121.add ((Ab).toNat * 5)).block, (ad121.add ((Ab).toNat * 5)).off + 3, none⟩ = some (.int .i64 ((rd_T30 l0 Ab).f3)) ∧ w'.cell? ⟨(ad121.add ((Ab).toNat * 5)).block, (ad121.add ((Ab).toNat * 5)).off + 4, none⟩ = some (.int .i64 ((rd_T30 l0 Ab).f4)) ∧ w'.cell? (ad121.add ((Aa).toNat * 5)) = some (.int .i64 ((rd_T30 l0 Aa).f0)) ∧ w'.cell? ⟨(ad121.add ((Aa).toNat * 5)).block, (ad121.add ((Aa).toNat * 5)).off + 1, none⟩ = some (.string ((rd_T30 l0 Aa).f1)) ∧ w'.cell? ⟨(ad121.add ((Aa).toNat * 5)).block, (ad121.add ((Aa).toNat * 5)).off + 2, none⟩ = some (.int .i64 ((rd_T30 l0 Aa).f2)) ∧ w'.cell? ⟨(ad121.add ((Aa).toNat * 5)).block, (ad121.add ((Aa).toNat * 5)).off + 3, none⟩ = some (.int .i64 ((rd_T30 l0 Aa).f3)) ∧ w'.cell? ⟨(ad121.add ((Aa).toNat * 5)).block, (ad121.add ((Aa).toNat * 5)).off + 4, none⟩ = some (.int .i64 ((rd_T30 l0 Aa).f4))) (ds := []) #[false, false, false, false, false, false, false, false, false, false, false] Z52 rfl rfl ⟨((HB.out.cell (World.block_lt_of_cell? w _ hw121_0)).trans hw121_0), ((HB.out.cell (World.block_lt_of_cell? w _ hw121_1)).trans hw121_1), ((HB.out.cell (World.block_lt_of_cell? w _ hw121_2)).trans hw121_2), ((HB.out.cell (World.block_lt_of_cell? w _ hw121_3)).trans hw121_3), ((HB.out.cell (World.block_lt_of_cell? w _ hw121_4)).trans hw121_4), ((HB.out.cell (World.block_lt_of_cell? w _ hw122_0)).trans hw122_0), ((HB.out.cell (World.block_lt_of_cell? w _ hw122_1)).trans hw122_1), ((HB.out.cell (World.block_lt_of_cell? w _ hw122_2)).trans hw122_2), ((HB.out.cell (World.block_lt_of_cell? w _ hw122_3)).trans hw122_3), ((HB.out.cell (World.block_lt_of_cell? w _ hw122_4)).trans hw122_4)⟩ (fun hHeld => ?_); refine with_tabW spec_l3Good.tab9 spec_l3Good.bits9 (fun HT_ HW_ => ?_)
                 generalize wr.drew = Cu at HB Ah Ai Aj Ak Al Am An Ao Ap Aq hHeld ⊢
                 refine puR 0 44 #[true, false, false, false, false, false, false, false, false, false, false] HT_ rfl rfl ?_; refine puR 1 45 #[true, true, false, false, false, false, false, false, false, false, false] HT_ rfl rfl ?_; refine puR 2 46 #[true, true, true, false, false, false, false, false, false, false, false] HT_ rfl rfl ?_; refine puR 3 47 #[true, true, true, true, false, false, false, false, false, false, false] HT_ rfl rfl ?_; refine puR 5 49 #[true, true, true, true, false, true, false, false, false, false, false] HT_ rfl rfl ?_; refine puR 6 50 #[true, true, true, true, false, true, true, false, false, false, false] HT_ rfl rfl ?_; refine puR 7 51 #[true, true, true, true, false, true, true, true, false, false, false] HT_ rfl rfl ?_; refine puR 8 52 #[true, true, true, true, false, true, true, true, true, false, false] HT_ rfl rfl ?_; refine taR 4 48 #[true, true, true, true, true, true, true, true, true, false, false] HT_ HW_ hHeld rfl rfl ?_; refine taR 9 53 #[true, true, true, true, true, true, true, true, true, true, false] HT_ HW_ hHeld rfl rfl ?_; refine puR 10 54 #[true, true, true, true, true, true, true, true, true, true, true] HT_ rfl rfl ?_; refine done_ (done_of HT_.out Z52) ?_
                 try go_wp2
                 go_ret
                 exact ⟨Z39, Z1⟩
                ·rw [if_neg Bu] at H
                 have c26b0 : (((rd_T30 l0 Ab).f1).toList == ((rd_T30 l0 Aa).f1).toList) = false := beq_eq_false_iff_ne.mpr Bu; have c26b1 : (((rd_T30 l0 Ab).f1).toList != ((rd_T30 l0 Aa).f1).toList) = true := bne_iff_ne.mpr Bu; have H' := Aside0.mk H; clear H
                 try go_wp2
                 replace HB := aM (below_drew1 HB.out); have Bh : 0 ≤ (Ab : Int) := of_decide_eq_true Z25; have Bi : Ab < (l0.length : Int) := of_decide_eq_true Z25; obtain ⟨ad121, e121, Ah, Ai, Aj, Ak, Al⟩ := at_T30 Bq.out Ab Bh Bi; have hw121_4 := Al; have hw121_3 := Ak; have hw121_2 := Aj; have hw121_1 := Ai; have hw121_0 := Ah; cases e121; replace Ah := (HB.out.cell (World.block_lt_of_cell? w _ Ah)).trans Ah; replace Ai := (HB.out.cell (World.block_lt_of_cell? w _ Ai)).trans Ai; replace Aj := (HB.out.cell (World.block_lt_of_cell? w _ Aj)).trans Aj; replace Ak := (HB.out.cell (World.block_lt_of_cell? w _ Ak)).trans Ak; replace Al := (HB.out.cell (World.block_lt_of_cell? w _ Al)).trans Al; replace Bh := eq_true Bh; replace Bi := eq_true Bi; have Bj : 0 ≤ (Aa : Int) := of_decide_eq_true Z25; have Bk : Aa < (l0.length : Int) := of_decide_eq_true Z25; obtain ⟨ad122, e122, Am, An, Ao, Ap, Aq⟩ := at_T30 Bq.out Aa Bj Bk; have hw122_4 := Aq; have hw122_3 := Ap; have hw122_2 := Ao; have hw122_1 := An; have hw122_0 := Am; obtain rfl : ad121 = ad122 := (by injection e122); replace Am := (HB.out.cell (World.block_lt_of_cell? w _ Am)).trans Am; replace An := (HB.out.cell (World.block_lt_of_cell? w _ An)).trans An; replace Ao := (HB.out.cell (World.block_lt_of_cell? w _ Ao)).trans Ao; replace Ap := (HB.out.cell (World.block_lt_of_cell? w _ Ap)).trans Ap; replace Aq := (HB.out.cell (World.block_lt_of_cell? w _ Aq)).trans Aq; replace Bj := eq_true Bj; replace Bk := eq_true Bk; refine start_ (n := 11) (S := fun w' => w'.cell? (ad121.add ((Ab).toNat * 5)) = some (.int .i64 ((rd_T30 l0 Ab).f0)) ∧ w'.cell? ⟨(ad121.add ((Ab).toNat * 5)).block, (ad121.add ((Ab).toNat * 5)).off + 1, none⟩ = some (.string ((rd_T30 l0 Ab).f1)) ∧ w'.cell? ⟨(ad121.add ((Ab).toNat * 5)).block, (ad121.add ((Ab).toNat * 5)).off + 2, none⟩ = some (.int .i64 ((rd_T30 l0 Ab).f2)) ∧ w'.cell? ⟨(ad121.add ((Ab).toNat * 5)).block, (ad121.add ((Ab).toNat * 5)).off + 3, none⟩ = some (.int .i64 ((rd_T30 l0 Ab).f3)) ∧ w'.cell? ⟨(ad121.add ((Ab).toNat * 5)).block, (ad121.add ((Ab).toNat * 5)).off + 4, none⟩ = some (.int .i64 ((rd_T30 l0 Ab).f4)) ∧ w'.cell? (ad121.add ((Aa).toNat * 5)) = some (.int .i64 ((rd_T30 l0 Aa).f0)) ∧ w'.cell? ⟨(ad121.add ((Aa).toNat * 5)).block, (ad121.add ((Aa).toNat * 5)).off + 1, none⟩ = some (.string ((rd_T30 l0 Aa).f1)) ∧ w'.cell? ⟨(ad121.add ((Aa).toNat * 5)).block, (ad121.add ((Aa).toNat * 5)).off + 2, none⟩ = some (.int .i64 ((rd_T30 l0 Aa).f2)) ∧ w'.cell? ⟨(ad121.add ((Aa).toNat * 5)).block, (ad121.add ((Aa).toNat * 5)).off + 3, none⟩ = some (.int .i64 ((rd_T30 l0 Aa).f3)) ∧ w'.cell? ⟨(ad121.add ((Aa).toNat * 5)).block, (ad121.add ((Aa).toNat * 5)).off + 4, none⟩ = some (.int .i64 ((rd_T30 l0 Aa).f4))) (ds := []) #[false, false, false, false, false, false, false, false, false, false, false] Z52 rfl rfl ⟨((HB.out.cell (World.block_lt_of_cell? w _ hw121_0)).trans hw121_0), ((HB.out.cell (World.block_lt_of_cell? w _ hw121_1)).trans hw121_1), ((HB.out.cell (World.block_lt_of_cell? w _ hw121_2)).trans hw121_2), ((HB.out.cell (World.block_lt_of_cell? w _ hw121_3)).trans hw121_3), ((HB.out.cell (World.block_lt_of_cell? w _ hw121_4)).trans hw121_4), ((HB.out.cell (World.block_lt_of_cell? w _ hw122_0)).trans hw122_0), ((HB.out.cell (World.block_lt_of_cell? w _ hw122_1)).trans hw122_1), ((HB.out.cell (World.block_lt_of_cell? w _ hw122_2)).trans hw122_2), ((HB.out.cell (World.block_lt_of_cell? w _ hw122_3)).trans hw122_3), ((HB.out.cell (World.block_lt_of_cell? w _ hw122_4)).trans hw122_4)⟩ (fun hHeld => ?_); refine with_tabW spec_l3Good.tab9 spec_l3Good.bits9 (fun HT_ HW_ => ?_)
                 generalize wr.drew = Cv at HB Ah Ai Aj Ak Al Am An Ao Ap Aq hHeld ⊢
                 refine puR 0 44 #[true, false, false, false, false, false, false, false, false, false, false] HT_ rfl rfl ?_; refine puR 1 45 #[true, true, false, false, false, false, false, false, false, false, false] HT_ rfl rfl ?_; refine puR 2 46 #[true, true, true, false, false, false, false, false, false, false, false] HT_ rfl rfl ?_; refine puR 3 47 #[true, true, true, true, false, false, false, false, false, false, false] HT_ rfl rfl ?_; refine puR 5 49 #[true, true, true, true, false, true, false, false, false, false, false] HT_ rfl rfl ?_; refine puR 6 50 #[true, true, true, true, false, true, true, false, false, false, false] HT_ rfl rfl ?_; refine puR 7 51 #[true, true, true, true, false, true, true, true, false, false, false] HT_ rfl rfl ?_; refine puR 8 52 #[true, true, true, true, false, true, true, true, true, false, false] HT_ rfl rfl ?_; refine taR 4 48 #[true, true, true, true, true, true, true, true, true, false, false] HT_ HW_ hHeld rfl rfl ?_; refine taR 9 53 #[true, true, true, true, true, true, true, true, true, true, false] HT_ HW_ hHeld rfl rfl ?_; refine puR 10 54 #[true, true, true, true, true, true, true, true, true, true, true] HT_ rfl rfl ?_; refine done_ (done_of HT_.out Z52) ?_
                 try go_wp2
                 go_roundg k4
                 case measure => have := HK1.out; have := HJ1.out; have := HJ4.out; have := HK4.out; omega
                 case rel => exact ⟨(wrap64 (Ab + 1)), Z37, H', ⟨Z141⟩, ⟨Z1⟩⟩
               ·rw [if_neg B5] at H
                exact absurd H (by simp)
              ·rw [if_neg B3] at H
               exact absurd H (by simp)
             ·rw [if_neg B2] at H
              exact absurd H (by simp)
            ·rw [if_neg B0] at H
             exact absurd H (by simp)
           ·rw [if_neg Bx] at H
            have c21b0 : decide (Ab < Aa) = false := decide_eq_false Bx; clear Bx; have H' := Aside0.mk H; clear H
            go_wp2
            go_roundg k4
            case measure => have := HK1.out; have := HJ1.out; have := HJ4.out; have := HK4.out; omega
            case rel => exact ⟨(wrap64 (Aa + 1)), Z37, H', ⟨Z141⟩, ⟨Z1⟩⟩
     ·replace c4 := Bool.eq_false_iff.mpr c4
      subst c4
      have H1 : (some (decide ((l0.length : Int) ≤ 10))) = some r := by rw [if_neg (show ¬ (false = true) by decide)] at H; exact H
      clear H; have H := H1; clear H1; obtain rfl := Option.some.inj H
      go_wp2
      go_ret
      exact ⟨Z39, Z1⟩
def spec_l1Cur_among.f (s0_0 : List Int) (s0_1 : Int) (s0_2 : Int) (l1 : List Int) : Option (Int × Int × Int) := (spec_l1Cur_pick.f s0_0 s0_1 s0_2 (l1.length : Int)).bind fun bt123 => (if 0 ≤ bt123.1 then (if bt123.1 < (l1.length : Int) then (some (rd l1 bt123.1, bt123.2.1, bt123.2.2)) else (none)) else (none))
theorem spec_l1Cur_among.calls (g : Nat) (Ad : List Int) (Ae : Int) (Af : Int) (A1 : Option Addr) (c1 : Nat) (l1 : List Int) (r1 : Int) (r2 : Int) (r3 : Int) (w0 w : World) (hI : IsS44 w0 w g Ad Ae Af) (hB : Below w0.heap.size w0 w) (Al : Kd.C (Kd.int .i64) w A1 l1.length l1) (Am : l1.length ≤ c1) (Ak : ∀ ad, A1 = some ad → 0 < l1.length → ad.block ≠ g) (h : spec_l1Cur_among.f Ad Ae Af l1 = some (r1, r2, r3)) :
  Calls Tryd.prog 20 #[.pointer (some ⟨g, 0, none⟩), .slice A1 l1.length c1] w fun e w' => e = .returned (.int .i64 r1) ∧ IsS44 w0 w' g Ad r2 r3 ∧ Below w0.heap.size w0 w' ∧ KeepBut w w' g none := by
 have Ao := Aside0.mk Al; have Ap := Aside0.mk Am; clear Al Am; have HI0 := Aside0.mk hI; have HK := aM (KeepBut.refl w g none); have HL := Aside0.mk hB.size; clear hI; have Aq := Aside0.mk hB.size; have HB := Aside0.mk hB; clear hB; have H : ((spec_l1Cur_pick.f Ad Ae Af (l1.length : Int)).bind fun Ab => (if 0 ≤ Ab.1 then (if Ab.1 < (l1.length : Int) then (some (rd l1 Ab.1, Ab.2.1, Ab.2.2)) else (none)) else (none))) = some (r1, r2, r3) := h; clear h; replace H := Option.bind_eq_some_iff.mp H; obtain ⟨⟨Aa, Ai, Aj⟩, An, H⟩ := H; replace H : (if 0 ≤ Aa then (if Aa < (l1.length : Int) then (some (rd l1 Aa, Ai, Aj)) else (none)) else (none)) = some (r1, r2, r3) := H; have A3 := Aside0.mk An; clear An
 by_cases c4 : 0 ≤ Aa
 ·rw [if_pos c4] at H
  have c4b0 : decide (0 ≤ Aa) = true := decide_eq_true c4; clear c4
  by_cases c5 : Aa < (l1.length : Int)
  ·rw [if_pos c5] at H
   have c5b0 : decide (Aa < (l1.length : Int)) = true := decide_eq_true c5; clear c5
   simp only [Option.some.injEq, Prod.mk.injEq] at H
   obtain ⟨rfl, rfl, rfl⟩ := H
   go_enter Tryd.func20, Tryd.ntmps20
   go_wp2_with (first | ((with_reducible refine gate_callee (f := 21) rfl ?_); refine glE (some 9) Tryd.func21 #[.pointer (some ⟨g, 0, none⟩), .int .i64 (l1.length : Int)] ?_; (with_reducible refine (spec_l1Cur_pick.calls g Ad Ae Af (l1.length : Int) Aa Ai Aj w0 _ ?side1 ?side2 A3.out).mono ?_); (case side1 => exact Z3); (case side2 => exact Z10); rintro e w6 ⟨rfl, hi, hb, hk⟩; refine ⟨_, rfl, ?_⟩; replace HK := aM (KeepBut.trans Z6 hk (.inl rfl)); replace HB := aM (hb); replace HI0 := aM (hi); (try clear hb); (try clear hk); (try clear hi); have Ag : 0 ≤ (Aa : Int) := of_decide_eq_true Z25; have Ah : Aa < (l1.length : Int) := of_decide_eq_true Z25; obtain ⟨ad126, e126, Ac⟩ := Kd.at_int Ao.out Aa Ag Ah; cases e126; replace Ac := keep_cell HK.out Ac (by first | (rw [add_block]; exact Ak _ rfl (by omega)) | exact Ak _ rfl (by omega) | exact Ak ad126 rfl (by omega)); replace Ag := eq_true Ag; replace Ah := eq_true Ah))
   go_ret
   exact ⟨Z39, Z3, Z10, Z6⟩
  ·rw [if_neg c5] at H
   exact absurd H (by simp)
 ·rw [if_neg c4] at H
  exact absurd H (by simp)
def spec_l1Cur_of.f (s0_0 : List Int) (s0_1 : Int) (s0_2 : Int) (l1 : List ByteArray) : Option (ByteArray × Int × Int) := (spec_l1Cur_pick.f s0_0 s0_1 s0_2 (l1.length : Int)).bind fun bt127 => (if 0 ≤ bt127.1 then (if bt127.1 < (l1.length : Int) then (some (rdOf ByteArray.empty l1 bt127.1, bt127.2.1, bt127.2.2)) else (none)) else (none))
theorem spec_l1Cur_of.calls (g : Nat) (Ad : List Int) (Ae : Int) (Af : Int) (A1 : Option Addr) (c1 : Nat) (l1 : List ByteArray) (r1 : ByteArray) (r2 : Int) (r3 : Int) (w0 w : World) (hI : IsS44 w0 w g Ad Ae Af) (hB : Below w0.heap.size w0 w) (Al : Kd.C Kd.string w A1 l1.length l1) (Am : l1.length ≤ c1) (Ak : ∀ ad, A1 = some ad → 0 < l1.length → ad.block ≠ g) (h : spec_l1Cur_of.f Ad Ae Af l1 = some (r1, r2, r3)) :
  Calls Tryd.prog 60 #[.pointer (some ⟨g, 0, none⟩), .slice A1 l1.length c1] w fun e w' => e = .returned (.string r1) ∧ IsS44 w0 w' g Ad r2 r3 ∧ Below w0.heap.size w0 w' ∧ KeepBut w w' g none := by
 have Ao := Aside0.mk Al; have Ap := Aside0.mk Am; clear Al Am; have HI0 := Aside0.mk hI; have HK := aM (KeepBut.refl w g none); have HL := Aside0.mk hB.size; clear hI; have Aq := Aside0.mk hB.size; have HB := Aside0.mk hB; clear hB; have H : ((spec_l1Cur_pick.f Ad Ae Af (l1.length : Int)).bind fun Ab => (if 0 ≤ Ab.1 then (if Ab.1 < (l1.length : Int) then (some (rdOf ByteArray.empty l1 Ab.1, Ab.2.1, Ab.2.2)) else (none)) else (none))) = some (r1, r2, r3) := h; clear h; replace H := Option.bind_eq_some_iff.mp H; obtain ⟨⟨Aa, Ai, Aj⟩, An, H⟩ := H; replace H : (if 0 ≤ Aa then (if Aa < (l1.length : Int) then (some (rdOf ByteArray.empty l1 Aa, Ai, Aj)) else (none)) else (none)) = some (r1, r2, r3) := H; have A3 := Aside0.mk An; clear An
 by_cases c4 : 0 ≤ Aa
 ·rw [if_pos c4] at H
  have c4b0 : decide (0 ≤ Aa) = true := decide_eq_true c4; clear c4
  by_cases c5 : Aa < (l1.length : Int)
  ·rw [if_pos c5] at H
   have c5b0 : decide (Aa < (l1.length : Int)) = true := decide_eq_true c5; clear c5
   simp only [Option.some.injEq, Prod.mk.injEq] at H
   obtain ⟨rfl, rfl, rfl⟩ := H
   go_enter Tryd.func60, Tryd.ntmps60
   go_wp2_with (first | ((with_reducible refine gate_callee (f := 21) rfl ?_); refine glE (some 9) Tryd.func21 #[.pointer (some ⟨g, 0, none⟩), .int .i64 (l1.length : Int)] ?_; (with_reducible refine (spec_l1Cur_pick.calls g Ad Ae Af (l1.length : Int) Aa Ai Aj w0 _ ?side1 ?side2 A3.out).mono ?_); (case side1 => exact Z3); (case side2 => exact Z10); rintro e w6 ⟨rfl, hi, hb, hk⟩; refine ⟨_, rfl, ?_⟩; replace HK := aM (KeepBut.trans Z6 hk (.inl rfl)); replace HB := aM (hb); replace HI0 := aM (hi); (try clear hb); (try clear hk); (try clear hi); have Ag : 0 ≤ (Aa : Int) := of_decide_eq_true Z25; have Ah : Aa < (l1.length : Int) := of_decide_eq_true Z25; obtain ⟨ad130, e130, Ac⟩ := Kd.at_string Ao.out Aa Ag Ah; cases e130; replace Ac := keep_cell HK.out Ac (by first | (rw [add_block]; exact Ak _ rfl (by omega)) | exact Ak _ rfl (by omega) | exact Ak ad130 rfl (by omega)); replace Ag := eq_true Ag; replace Ah := eq_true Ah))
   go_ret
   exact ⟨Z39, Z3, Z10, Z6⟩
  ·rw [if_neg c5] at H
   exact absurd H (by simp)
 ·rw [if_neg c4] at H
  exact absurd H (by simp)
def spec_l1Cur_shade.f (s0_0 : List Int) (s0_1 : Int) (s0_2 : Int) (a1 : Int) : Option (Int × ByteArray × Int × Int × Int × Int × Int) := (spec_l1Cur_of.f s0_0 s0_1 s0_2 (([(⟨#[109, 97, 100, 100, 101, 114]⟩ : ByteArray), (⟨#[105, 110, 100, 105, 103, 111]⟩ : ByteArray), (⟨#[119, 101, 108, 100]⟩ : ByteArray), (⟨#[119, 97, 108, 110, 117, 116]⟩ : ByteArray), (⟨#[99, 111, 99, 104, 105, 110, 101, 97, 108]⟩ : ByteArray), (⟨#[105, 118, 111, 114, 121]⟩ : ByteArray)] : List ByteArray))).bind fun bt135 => ((spec_l1Cur_among.f s0_0 bt135.2.1 bt135.2.2 (([0, 1, 4, 8, 12, 16, 23] : List Int))).bind fun bt141 => ((spec_l1Cur_among.f s0_0 bt141.2.1 bt141.2.2 (([0, 2, 5, 9] : List Int))).bind fun bt147 => ((spec_l1Cur_among.f s0_0 bt147.2.1 bt147.2.2 (([1, 3, 5, 8] : List Int))).bind fun bt153 => ((spec_l1Cur_pick.f s0_0 bt153.2.1 bt153.2.2 70).bind fun bt157 => (if bt157.1 = 0 then ((spec_l1Cur_among.f s0_0 bt157.2.1 bt157.2.2 (([0, 99, 100] : List Int))).bind fun bt163 => (some (bt163.1, bt135.1, bt141.1, bt147.1, bt153.1, bt163.2.1, bt163.2.2))) else (if bt157.1 = 1 then ((spec_l1Cur_of.f s0_0 bt157.2.1 bt157.2.2 (([(⟨#[]⟩ : ByteArray), (⟨#[65]⟩ : ByteArray), (⟨#[97, 98, 99, 100, 101, 102, 103, 104, 105, 106, 107]⟩ : ByteArray)] : List ByteArray))).bind fun bt169 => (some (a1, bt169.1, bt141.1, bt147.1, bt153.1, bt169.2.1, bt169.2.2))) else (if bt157.1 = 2 then ((spec_l1Cur_among.f s0_0 bt157.2.1 bt157.2.2 (([(-1), 24] : List Int))).bind fun bt175 => (some (a1, bt135.1, bt175.1, bt147.1, bt153.1, bt175.2.1, bt175.2.2))) else (if bt157.1 = 3 then ((spec_l1Cur_among.f s0_0 bt157.2.1 bt157.2.2 (([(-1), 10] : List Int))).bind fun bt181 => (some (a1, bt135.1, bt141.1, bt181.1, bt153.1, bt181.2.1, bt181.2.2))) else (if bt157.1 = 4 then ((spec_l1Cur_among.f s0_0 bt157.2.1 bt157.2.2 (([0, 9] : List Int))).bind fun bt187 => (some (a1, bt135.1, bt141.1, bt147.1, bt187.1, bt187.2.1, bt187.2.2))) else (some (a1, bt135.1, bt141.1, bt147.1, bt153.1, bt157.2.1, bt157.2.2)))))))))))
end Go.Proofs.YtedjeeicpppplaaDoor.H
