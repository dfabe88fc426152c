-- by wip/pack.py of this repo
import Derived.Test.YtfeighajmkcjfaaGreatDoorZ01Hx0
import Derived.Test.YtfeighajmkcjfaaGreatDoorZ01Hx2
import Derived.Test.YtfeighajmkcjfaaGreatDoorZ01Hx3
import Derived.Test.YtfeighajmkcjfaaGreatDoorZ01Hx4
import Derived.Test.YtfeighajmkcjfaaGreatDoorZ01Hx6
import Derived.Test.YtfeighajmkcjfaaGreatDoorZ01Hx7
import Derived.Test.YtfeighajmkcjfaaGreatDoorZ01Hx8
import Derived.Test.YtfeighajmkcjfaaGreatDoorZ01Hx9
import Derived.Test.YtfeighajmkcjfaaGreatDoorZ01WGuard
import Derived.Test.YtfeighajmkcjfaaGreatDoorZ01WLast
import Derived.Test.YtfeighajmkcjfaaGreatDoorZ01WMore
import Derived.Test.YtfeighajmkcjfaaGreatDoorZ01WTab
import Derived.Test.YtfeighajmkcjfaaGreatDoorZ01WWords
import Derived.Test.YtfeighajmkcjfaaGreatDoorZ01Short
namespace Go.Proofs.YtfeighajmkcjfaaGreatDoor.H
open Go.RowKit Go.Proofs.YtfeighajmkcjfaaGreatDoorW.PrintWords Go.Proofs.YtfeighajmkcjfaaGreatDoorW.PrintLast Go.Proofs.YtfeighajmkcjfaaGreatDoorW.PrintMore
attribute [local go_sem] max2_int min2_int max_two min_two max_three min_three max_four min_four
set_option maxHeartbeats 80000000
set_option maxRecDepth 100000
set_option linter.unusedVariables false
set_option linter.unusedSimpArgs false
def spec_RecipeText.l0 : Nat → List (S53) → ByteArray → Int → Option (ByteArray × Bool)
 | 0, _, _, _ => none
 | k + 1, x0, x4, x5 => if x5 < (x0.length : Int) then (if x5 > 0 then (if x4.size + 1 ≤ 9223372036854775807 then (if 0 ≤ x5 then (if (x4 ++ (⟨#[32]⟩ : ByteArray)).size + ((rd_T53 x0 x5).f0).size ≤ 9223372036854775807 then (if ((x4 ++ (⟨#[32]⟩ : ByteArray)) ++ ((rd_T53 x0 x5).f0)).size + 1 ≤ 9223372036854775807 then ((spec_l1Num.f k ((rd_T53 x0 x5).f1)).bind fun t441 => (if (((x4 ++ (⟨#[32]⟩ : ByteArray)) ++ ((rd_T53 x0 x5).f0)) ++ (⟨#[58]⟩ : ByteArray)).size + t441.size ≤ 9223372036854775807 then (spec_RecipeText.l0 k x0 ((((x4 ++ (⟨#[32]⟩ : ByteArray)) ++ ((rd_T53 x0 x5).f0)) ++ (⟨#[58]⟩ : ByteArray)) ++ t441) (wrap64 (x5 + 1))) else (none))) else (none)) else (none)) else (none)) else (none)) else (if 0 ≤ x5 then (if x4.size + ((rd_T53 x0 x5).f0).size ≤ 9223372036854775807 then (if (x4 ++ ((rd_T53 x0 x5).f0)).size + 1 ≤ 9223372036854775807 then ((spec_l1Num.f k ((rd_T53 x0 x5).f1)).bind fun t444 => (if ((x4 ++ ((rd_T53 x0 x5).f0)) ++ (⟨#[58]⟩ : ByteArray)).size + t444.size ≤ 9223372036854775807 then (spec_RecipeText.l0 k x0 (((x4 ++ ((rd_T53 x0 x5).f0)) ++ (⟨#[58]⟩ : ByteArray)) ++ t444) (wrap64 (x5 + 1))) else (none))) else (none)) else (none)) else (none))) else (some (x4, true))
def spec_RecipeText.f (k : Nat) (l0 : List (S53)) : Option (ByteArray × Bool) := (spec_l7Good.f k l0).bind fun t438 => (if t438 = true then (spec_RecipeText.l0 k l0 (⟨#[]⟩ : ByteArray) 0) else (some ((⟨#[]⟩ : ByteArray), false)))
def spec_RecipeText.T9 : Bool × List (List Nat × List Nat) := (true, [([], []), ([], []), ([], []), ([1, 2], [1, 2]), ([3], [3]), ([4], [4]), ([0, 5], [0, 5]), ([6], [6]), ([], []), ([], []), ([8, 9], [8, 9]), ([10], [10]), ([11], [11]), ([12], [12]), ([7, 13], [7, 13]), ([14, 13, 0, 1, 2, 3, 4, 5, 6, 7, 8, 9, 10, 11, 12, 13, 14], [0, 14])])
def spec_RecipeText.B9 : List Nat := [0, 0, 0, 6, 14, 30, 63, 127, 0, 0, 768, 1792, 3840, 7936, 16383, 32767]
theorem spec_RecipeText.tab9 : rtab .any (opsOf Tryz.f16 9) = spec_RecipeText.T9 := by kernel_rfl
theorem spec_RecipeText.bits9 : waitsOk spec_RecipeText.T9.2 spec_RecipeText.B9 = true := by kernel_rfl
theorem spec_RecipeText.calls (k : Nat) (A0 : Option Addr) (c0 : Nat) (l0 : List (S53)) (r1 : ByteArray) (r2 : Bool) (w : World) (Bh : Kd.C k53 w A0 l0.length l0) (Bi : l0.length ≤ c0) (h : spec_RecipeText.f k l0 = some (r1, r2)) :
  Calls Tryz.prog 16 #[.slice A0 l0.length c0] w fun e w' => e = .returned (.tuple #[.string r1, .bool r2]) ∧ Below w.heap.size w w' := by
 have Ax := Aside0.mk Bh; have Bj := Aside0.mk Bi; clear Bh Bi; have HB := aM (Below.refl w.heap.size w); have H : ((spec_l7Good.f k l0).bind fun Am => (if Am = true then (spec_RecipeText.l0 k l0 (⟨#[]⟩ : ByteArray) 0) else (some ((⟨#[]⟩ : ByteArray), false)))) = some (r1, r2) := h; clear h; replace H := Option.bind_eq_some_iff.mp H; obtain ⟨Am, Bk, H⟩ := H; replace H : (if Am = true then (spec_RecipeText.l0 k l0 (⟨#[]⟩ : ByteArray) 0) else (some ((⟨#[]⟩ : ByteArray), false))) = some (r1, r2) := H; have A2 := Aside0.mk Bk; clear Bk
 by_cases c3 : Am = true
 ·subst c3
  have H1 : (spec_RecipeText.l0 k l0 (⟨#[]⟩ : ByteArray) 0) = some (r1, r2) := by rw [if_pos rfl] at H; exact H
  clear H; have H := H1; clear H1; have H' := Aside0.mk H; clear H
  go_enter Tryz.func16, Tryz.ntmps16
  go_wp2_with (first | ((with_reducible refine gate_callee (f := 27) rfl ?_); refine glE (some 7) Tryz.func27 #[.slice A0 l0.length c0] ?_; (with_reducible refine (spec_l7Good.calls k _ _ l0 true _ ?side1 ?side2 A2.out).mono ?_); (case side1 => exact Z108); (case side2 => exact Bj.out); rintro e w4 ⟨rfl, hb⟩; refine ⟨_, rfl, ?_⟩; replace HB := hbS Z0 hb; (try clear hb)))
  go_loopg [4, 5] k (fun kq v4 v5 w' => ∃ (Ab : ByteArray) (Aa : Int), v4 = .string Ab ∧ v5 = .int .i64 Aa ∧ Aside0 (spec_RecipeText.l0 kq l0 Ab Aa = some (r1, r2)) ∧ Aside0 (kq ≤ k) ∧ Aside0 (Below w.heap.size w w'))
  case atStart => exact ⟨((⟨#[]⟩ : ByteArray)), (0), Z12, Z12, H', ⟨Nat.le_refl _⟩, ⟨Z0⟩⟩
  case round =>
   clear H'; (try clear c1); (try clear c2); (try clear p2); (try clear c3); obtain ⟨Ab, Aa, rfl, rfl, HA, HK1, HB⟩ := hrel; cases gk with
   | zero => exact absurd HA.out (by simp [spec_RecipeText.l0])
   | succ k1 =>
    have H := HA.out; clear HA
    simp only [spec_RecipeText.l0] at H
    by_cases c5 : Aa < (l0.length : Int)
    ·rw [if_pos c5] at H
     have c5b0 : decide (Aa < (l0.length : Int)) = true := decide_eq_true c5; clear c5
     by_cases c6 : Aa > 0
     ·rw [if_pos c6] at H
      have c6b0 : decide (0 < Aa) = true := decide_eq_true c6; clear c6
      by_cases c7 : Ab.size + 1 ≤ 9223372036854775807
      ·rw [if_pos c7] at H
       have c7b0 := eq_true c7; have c7b1 : decide (Ab.size + 1 ≤ 9223372036854775807) = true := decide_eq_true c7
       try have c7b2 : (9223372036854775807 < Ab.size + 1) = False := eq_false (Nat.not_lt.2 c7)
       by_cases c8 : 0 ≤ Aa
       ·rw [if_pos c8] at H
        have c8b0 : decide (0 ≤ Aa) = true := decide_eq_true c8; clear c8
        by_cases c9 : (Ab ++ (⟨#[32]⟩ : ByteArray)).size + ((rd_T53 l0 Aa).f0).size ≤ 9223372036854775807
        ·rw [if_pos c9] at H
         have c9b0 := eq_true c9; have c9b1 : decide ((Ab ++ (⟨#[32]⟩ : ByteArray)).size + ((rd_T53 l0 Aa).f0).size ≤ 9223372036854775807) = true := decide_eq_true c9
         try have c9b2 : (9223372036854775807 < (Ab ++ (⟨#[32]⟩ : ByteArray)).size + ((rd_T53 l0 Aa).f0).size) = False := eq_false (Nat.not_lt.2 c9)
         try have c9b1q := c9b1
         try rw [show (Ab ++ (⟨#[32]⟩ : ByteArray)).size = Ab.size + 1 from Z127] at c9b1q
         try have c9b2q := c9b2
         try rw [show (Ab ++ (⟨#[32]⟩ : ByteArray)).size = Ab.size + 1 from Z127] at c9b2q
         by_cases Ay : ((Ab ++ (⟨#[32]⟩ : ByteArray)) ++ ((rd_T53 l0 Aa).f0)).size + 1 ≤ 9223372036854775807
         ·rw [if_pos Ay] at H
          have c10b0 := eq_true Ay; have c10b1 : decide (((Ab ++ (⟨#[32]⟩ : ByteArray)) ++ ((rd_T53 l0 Aa).f0)).size + 1 ≤ 9223372036854775807) = true := decide_eq_true Ay
          try have c10b2 : (9223372036854775807 < ((Ab ++ (⟨#[32]⟩ : ByteArray)) ++ ((rd_T53 l0 Aa).f0)).size + 1) = False := eq_false (Nat.not_lt.2 Ay)
          try have c10b1r := c10b1
          try simp only [ByteArray.size_append, show (⟨#[32]⟩ : ByteArray).size = 1 from rfl] at c10b1r
          try have c10b2r := c10b2
          try simp only [ByteArray.size_append, show (⟨#[32]⟩ : ByteArray).size = 1 from rfl] at c10b2r
          try have c10b1q := c10b1
          try rw [show (Ab ++ (⟨#[32]⟩ : ByteArray)).size = Ab.size + 1 from Z127] at c10b1q
          try have c10b2q := c10b2
          try rw [show (Ab ++ (⟨#[32]⟩ : ByteArray)).size = Ab.size + 1 from Z127] at c10b2q
          replace H := Option.bind_eq_some_iff.mp H; obtain ⟨Ak, Az, H⟩ := H; replace H : (if (((Ab ++ (⟨#[32]⟩ : ByteArray)) ++ ((rd_T53 l0 Aa).f0)) ++ (⟨#[58]⟩ : ByteArray)).size + Ak.size ≤ 9223372036854775807 then (spec_RecipeText.l0 k1 l0 ((((Ab ++ (⟨#[32]⟩ : ByteArray)) ++ ((rd_T53 l0 Aa).f0)) ++ (⟨#[58]⟩ : ByteArray)) ++ Ak) (wrap64 (Aa + 1))) else (none)) = some (r1, r2) := H; have Bl := Aside0.mk Az; clear Az
          by_cases Ba : (((Ab ++ (⟨#[32]⟩ : ByteArray)) ++ ((rd_T53 l0 Aa).f0)) ++ (⟨#[58]⟩ : ByteArray)).size + Ak.size ≤ 9223372036854775807
          ·rw [if_pos Ba] at H
           have c12b0 := eq_true Ba; have c12b1 : decide ((((Ab ++ (⟨#[32]⟩ : ByteArray)) ++ ((rd_T53 l0 Aa).f0)) ++ (⟨#[58]⟩ : ByteArray)).size + Ak.size ≤ 9223372036854775807) = true := decide_eq_true Ba
           try have c12b2 : (9223372036854775807 < (((Ab ++ (⟨#[32]⟩ : ByteArray)) ++ ((rd_T53 l0 Aa).f0)) ++ (⟨#[58]⟩ : ByteArray)).size + Ak.size) = False := eq_false (Nat.not_lt.2 Ba)
           try have c12b1r := c12b1
           try simp only [ByteArray.size_append, show (⟨#[32]⟩ : ByteArray).size = 1 from rfl, show (⟨#[58]⟩ : ByteArray).size = 1 from rfl] at c12b1r
           try have c12b2r := c12b2
           try simp only [ByteArray.size_append, show (⟨#[32]⟩ : ByteArray).size = 1 from rfl, show (⟨#[58]⟩ : ByteArray).size = 1 from rfl] at c12b2r
           try have c12b1q := c12b1
           try rw [show (Ab ++ (⟨#[32]⟩ : ByteArray)).size = Ab.size + 1 from Z127] at c12b1q
           try have c12b2q := c12b2
           try rw [show (Ab ++ (⟨#[32]⟩ : ByteArray)).size = Ab.size + 1 from Z127] at c12b2q
           have H' := Aside0.mk H; clear H
           try go_wp2
           replace HB := aM (below_drew1 HB.out); have An : 0 ≤ (Aa : Int) := of_decide_eq_true Z6; have Ao : Aa < (l0.length : Int) := of_decide_eq_true Z6; obtain ⟨ad439, e439, Ac, Ad⟩ := at_T53 Ax.out Aa An Ao; have hw439_1 := Ad; have hw439_0 := Ac; cases e439; replace Ac := (HB.out.cell (World.block_lt_of_cell? w _ Ac)).trans Ac; replace Ad := (HB.out.cell (World.block_lt_of_cell? w _ Ad)).trans Ad; replace An := eq_true An; replace Ao := eq_true Ao; have Ap : 0 ≤ (Aa : Int) := of_decide_eq_true Z6; have Aq : Aa < (l0.length : Int) := of_decide_eq_true Z6; obtain ⟨ad440, e440, Ae, Af⟩ := at_T53 Ax.out Aa Ap Aq; have hw440_1 := Af; have hw440_0 := Ae; obtain rfl : ad439 = ad440 := (by injection e440); replace Ae := (HB.out.cell (World.block_lt_of_cell? w _ Ae)).trans Ae; replace Af := (HB.out.cell (World.block_lt_of_cell? w _ Af)).trans Af; replace Ap := eq_true Ap; replace Aq := eq_true Aq; refine start_ (n := 16) (S := fun w' => w'.cell? (ad439.add ((Aa).toNat * 2)) = some (.string ((rd_T53 l0 Aa).f0)) ∧ w'.cell? ⟨(ad439.add ((Aa).toNat * 2)).block, (ad439.add ((Aa).toNat * 2)).off + 1, none⟩ = some (.int .i64 ((rd_T53 l0 Aa).f1)) ∧ w'.cell? (ad439.add ((Aa).toNat * 2)) = some (.string ((rd_T53 l0 Aa).f0)) ∧ w'.cell? ⟨(ad439.add ((Aa).toNat * 2)).block, (ad439.add ((Aa).toNat * 2)).off + 1, none⟩ = some (.int .i64 ((rd_T53 l0 Aa).f1))) (ds := []) #[false, false, false, false, false, false, false, false, false, false, false, false, false, false, false, false] Z21 rfl rfl ⟨((HB.out.cell (World.block_lt_of_cell? w _ hw439_0)).trans hw439_0), ((HB.out.cell (World.block_lt_of_cell? w _ hw439_1)).trans hw439_1), ((HB.out.cell (World.block_lt_of_cell? w _ hw440_0)).trans hw440_0), ((HB.out.cell (World.block_lt_of_cell? w _ hw440_1)).trans hw440_1)⟩ (fun hHeld => ?_); refine with_tabW spec_RecipeText.tab9 spec_RecipeText.bits9 (fun HT_ HW_ => ?_)
           generalize wr.drew = Bn at HB Ac Ad Ae Af hHeld ⊢
           refine puR 0 19 #[true, false, false, false, false, false, false, false, false, false, false, false, false, false, false, false] HT_ rfl rfl ?_; refine puR 1 20 #[true, true, false, false, false, false, false, false, false, false, false, false, false, false, false, false] HT_ rfl rfl ?_; refine puR 2 21 #[true, true, true, false, false, false, false, false, false, false, false, false, false, false, false, false] HT_ rfl rfl ?_; refine puR 3 22 #[true, true, true, true, false, false, false, false, false, false, false, false, false, false, false, false] HT_ rfl rfl ?_; refine puR 4 23 #[true, true, true, true, true, false, false, false, false, false, false, false, false, false, false, false] HT_ rfl rfl ?_; refine puR 8 27 #[true, true, true, true, true, false, false, false, true, false, false, false, false, false, false, false] HT_ rfl rfl ?_; refine puR 9 28 #[true, true, true, true, true, false, false, false, true, true, false, false, false, false, false, false] HT_ rfl rfl ?_; refine puR 10 29 #[true, true, true, true, true, false, false, false, true, true, true, false, false, false, false, false] HT_ rfl rfl ?_; refine puR 11 30 #[true, true, true, true, true, false, false, false, true, true, true, true, false, false, false, false] HT_ rfl rfl ?_; refine taR 5 24 #[true, true, true, true, true, true, false, false, true, true, true, true, false, false, false, false] HT_ HW_ hHeld rfl rfl ?_; refine puR 6 25 #[true, true, true, true, true, true, true, false, true, true, true, true, false, false, false, false] HT_ rfl rfl ?_; refine puR 7 26 #[true, true, true, true, true, true, true, true, true, true, true, true, false, false, false, false] HT_ rfl rfl ?_; refine taR 12 31 #[true, true, true, true, true, true, true, true, true, true, true, true, true, false, false, false] HT_ HW_ hHeld rfl rfl ?_; refine one_ (i := 13) (N := some 32) #[true, true, true, true, true, true, true, true, true, true, true, true, true, true, false, false] rfl rfl (one_of HT_.out Z21) (by decide) (fun K hK => ?_); refine goes_ Tryz.func43 Z21 rfl #[.int .i64 ((rd_T53 l0 Aa).f1)] (by rfl) rfl rfl Z15 ?_; (with_reducible refine (spec_l1Num.calls k1 ((rd_T53 l0 Aa).f1) Ak _ Bl.out).mono ?_); rintro e Bo ⟨rfl, hb⟩; refine ⟨_, rfl, ?_⟩; replace HB := hbS Z0 hb; (try clear hb); (try clear hb2); (try clear hk); (try clear hi); refine hK.out _ _ (by exact ⟨((HB.out.cell (World.block_lt_of_cell? w _ hw439_0)).trans hw439_0), ((HB.out.cell (World.block_lt_of_cell? w _ hw439_1)).trans hw439_1), ((HB.out.cell (World.block_lt_of_cell? w _ hw440_0)).trans hw440_0), ((HB.out.cell (World.block_lt_of_cell? w _ hw440_1)).trans hw440_1)⟩) (fun hHeld => ?_); clear hK K; refine noR 32 ?_; refine puR 14 33 #[true, true, true, true, true, true, true, true, true, true, true, true, true, true, true, false] HT_ rfl rfl ?_; refine puR 15 4 #[true, true, true, true, true, true, true, true, true, true, true, true, true, true, true, true] HT_ rfl rfl ?_; refine done_ (done_of HT_.out Z21) ?_
           try go_wp2
           go_roundg k1
           case measure => have := HK1.out; omega
           case rel => exact ⟨((((Ab ++ (⟨#[32]⟩ : ByteArray)) ++ ((rd_T53 l0 Aa).f0)) ++ (⟨#[58]⟩ : ByteArray)) ++ Ak), (wrap64 (Aa + 1)), Z12, Z12, H', ⟨Z114⟩, ⟨Z0⟩⟩
          ·rw [if_neg Ba] at H
           exact absurd H (by simp)
         ·rw [if_neg Ay] at H
          exact absurd H (by simp)
        ·rw [if_neg c9] at H
         exact absurd H (by simp)
       ·rw [if_neg c8] at H
        exact absurd H (by simp)
      ·rw [if_neg c7] at H
       exact absurd H (by simp)
     ·rw [if_neg c6] at H
      have c6b0 : decide (0 < Aa) = false := decide_eq_false c6; clear c6
      by_cases Bg : 0 ≤ Aa
      ·rw [if_pos Bg] at H
       have c15b0 : decide (0 ≤ Aa) = true := decide_eq_true Bg; clear Bg
       by_cases Bb : Ab.size + ((rd_T53 l0 Aa).f0).size ≤ 9223372036854775807
       ·rw [if_pos Bb] at H
        have c16b0 := eq_true Bb; have c16b1 : decide (Ab.size + ((rd_T53 l0 Aa).f0).size ≤ 9223372036854775807) = true := decide_eq_true Bb
        try have c16b2 : (9223372036854775807 < Ab.size + ((rd_T53 l0 Aa).f0).size) = False := eq_false (Nat.not_lt.2 Bb)
        by_cases Bc : (Ab ++ ((rd_T53 l0 Aa).f0)).size + 1 ≤ 9223372036854775807
        ·rw [if_pos Bc] at H
         have c17b0 := eq_true Bc; have c17b1 : decide ((Ab ++ ((rd_T53 l0 Aa).f0)).size + 1 ≤ 9223372036854775807) = true := decide_eq_true Bc
         try have c17b2 : (9223372036854775807 < (Ab ++ ((rd_T53 l0 Aa).f0)).size + 1) = False := eq_false (Nat.not_lt.2 Bc)
         try have c17b1q := c17b1
         try simp only [ByteArray.size_append] at c17b1q
         try have c17b2q := c17b2
         try simp only [ByteArray.size_append] at c17b2q
         replace H := Option.bind_eq_some_iff.mp H; obtain ⟨Al, Bd, H⟩ := H; replace H : (if ((Ab ++ ((rd_T53 l0 Aa).f0)) ++ (⟨#[58]⟩ : ByteArray)).size + Al.size ≤ 9223372036854775807 then (spec_RecipeText.l0 k1 l0 (((Ab ++ ((rd_T53 l0 Aa).f0)) ++ (⟨#[58]⟩ : ByteArray)) ++ Al) (wrap64 (Aa + 1))) else (none)) = some (r1, r2) := H; have Bm := Aside0.mk Bd; clear Bd
         by_cases Bf : ((Ab ++ ((rd_T53 l0 Aa).f0)) ++ (⟨#[58]⟩ : ByteArray)).size + Al.size ≤ 9223372036854775807
         ·rw [if_pos Bf] at H
          have c19b0 := eq_true Bf; have c19b1 : decide (((Ab ++ ((rd_T53 l0 Aa).f0)) ++ (⟨#[58]⟩ : ByteArray)).size + Al.size ≤ 9223372036854775807) = true := decide_eq_true Bf
          try have c19b2 : (9223372036854775807 < ((Ab ++ ((rd_T53 l0 Aa).f0)) ++ (⟨#[58]⟩ : ByteArray)).size + Al.size) = False := eq_false (Nat.not_lt.2 Bf)
          try have c19b1q := c19b1
          try simp only [ByteArray.size_append, show (⟨#[58]⟩ : ByteArray).size = 1 from rfl] at c19b1q
          try have c19b2q := c19b2
          try simp only [ByteArray.size_append, show (⟨#[58]⟩ : ByteArray).size = 1 from rfl] at c19b2q
          have H' := Aside0.mk H; clear H
          try go_wp2
          replace HB := aM (below_drew1 HB.out); have Ar : 0 ≤ (Aa : Int) := of_decide_eq_true Z6; have Au : Aa < (l0.length : Int) := of_decide_eq_true Z6; obtain ⟨ad442, e442, Ag, Ah⟩ := at_T53 Ax.out Aa Ar Au; have hw442_1 := Ah; have hw442_0 := Ag; cases e442; replace Ag := (HB.out.cell (World.block_lt_of_cell? w _ Ag)).trans Ag; replace Ah := (HB.out.cell (World.block_lt_of_cell? w _ Ah)).trans Ah; replace Ar := eq_true Ar; replace Au := eq_true Au; have Av : 0 ≤ (Aa : Int) := of_decide_eq_true Z6; have Aw : Aa < (l0.length : Int) := of_decide_eq_true Z6; obtain ⟨ad443, e443, Ai, Aj⟩ := at_T53 Ax.out Aa Av Aw; have hw443_1 := Aj; have hw443_0 := Ai; obtain rfl : ad442 = ad443 := (by injection e443); replace Ai := (HB.out.cell (World.block_lt_of_cell? w _ Ai)).trans Ai; replace Aj := (HB.out.cell (World.block_lt_of_cell? w _ Aj)).trans Aj; replace Av := eq_true Av; replace Aw := eq_true Aw; refine start_ (n := 16) (S := fun w' => w'.cell? (ad442.add ((Aa).toNat * 2)) = some (.string ((rd_T53 l0 Aa).f0)) ∧ w'.cell? ⟨(ad442.add ((Aa).toNat * 2)).block, (ad442.add ((Aa).toNat * 2)).off + 1, none⟩ = some (.int .i64 ((rd_T53 l0 Aa).f1)) ∧ w'.cell? (ad442.add ((Aa).toNat * 2)) = some (.string ((rd_T53 l0 Aa).f0)) ∧ w'.cell? ⟨(ad442.add ((Aa).toNat * 2)).block, (ad442.add ((Aa).toNat * 2)).off + 1, none⟩ = some (.int .i64 ((rd_T53 l0 Aa).f1))) (ds := []) #[false, false, false, false, false, false, false, false, false, false, false, false, false, false, false, false] Z21 rfl rfl ⟨((HB.out.cell (World.block_lt_of_cell? w _ hw442_0)).trans hw442_0), ((HB.out.cell (World.block_lt_of_cell? w _ hw442_1)).trans hw442_1), ((HB.out.cell (World.block_lt_of_cell? w _ hw443_0)).trans hw443_0), ((HB.out.cell (World.block_lt_of_cell? w _ hw443_1)).trans hw443_1)⟩ (fun hHeld => ?_); refine with_tabW spec_RecipeText.tab9 spec_RecipeText.bits9 (fun HT_ HW_ => ?_)
          generalize wr.drew = Bp at HB Ag Ah Ai Aj hHeld ⊢
          refine puR 0 19 #[true, false, false, false, false, false, false, false, false, false, false, false, false, false, false, false] HT_ rfl rfl ?_; refine puR 1 20 #[true, true, false, false, false, false, false, false, false, false, false, false, false, false, false, false] HT_ rfl rfl ?_; refine puR 2 21 #[true, true, true, false, false, false, false, false, false, false, false, false, false, false, false, false] HT_ rfl rfl ?_; refine puR 3 22 #[true, true, true, true, false, false, false, false, false, false, false, false, false, false, false, false] HT_ rfl rfl ?_; refine puR 4 23 #[true, true, true, true, true, false, false, false, false, false, false, false, false, false, false, false] HT_ rfl rfl ?_; refine puR 8 27 #[true, true, true, true, true, false, false, false, true, false, false, false, false, false, false, false] HT_ rfl rfl ?_; refine puR 9 28 #[true, true, true, true, true, false, false, false, true, true, false, false, false, false, false, false] HT_ rfl rfl ?_; refine puR 10 29 #[true, true, true, true, true, false, false, false, true, true, true, false, false, false, false, false] HT_ rfl rfl ?_; refine puR 11 30 #[true, true, true, true, true, false, false, false, true, true, true, true, false, false, false, false] HT_ rfl rfl ?_; refine taR 5 24 #[true, true, true, true, true, true, false, false, true, true, true, true, false, false, false, false] HT_ HW_ hHeld rfl rfl ?_; refine puR 6 25 #[true, true, true, true, true, true, true, false, true, true, true, true, false, false, false, false] HT_ rfl rfl ?_; refine puR 7 26 #[true, true, true, true, true, true, true, true, true, true, true, true, false, false, false, false] HT_ rfl rfl ?_; refine taR 12 31 #[true, true, true, true, true, true, true, true, true, true, true, true, true, false, false, false] HT_ HW_ hHeld rfl rfl ?_; refine one_ (i := 13) (N := some 32) #[true, true, true, true, true, true, true, true, true, true, true, true, true, true, false, false] rfl rfl (one_of HT_.out Z21) (by decide) (fun K hK => ?_); refine goes_ Tryz.func43 Z21 rfl #[.int .i64 ((rd_T53 l0 Aa).f1)] (by rfl) rfl rfl Z15 ?_; (with_reducible refine (spec_l1Num.calls k1 ((rd_T53 l0 Aa).f1) Al _ Bm.out).mono ?_); rintro e Bq ⟨rfl, hb⟩; refine ⟨_, rfl, ?_⟩; replace HB := hbS Z0 hb; (try clear hb); (try clear hb2); (try clear hk); (try clear hi); refine hK.out _ _ (by exact ⟨((HB.out.cell (World.block_lt_of_cell? w _ hw442_0)).trans hw442_0), ((HB.out.cell (World.block_lt_of_cell? w _ hw442_1)).trans hw442_1), ((HB.out.cell (World.block_lt_of_cell? w _ hw443_0)).trans hw443_0), ((HB.out.cell (World.block_lt_of_cell? w _ hw443_1)).trans hw443_1)⟩) (fun hHeld => ?_); clear hK K; refine noR 32 ?_; refine puR 14 33 #[true, true, true, true, true, true, true, true, true, true, true, true, true, true, true, false] HT_ rfl rfl ?_; refine puR 15 4 #[true, true, true, true, true, true, true, true, true, true, true, true, true, true, true, true] HT_ rfl rfl ?_; refine done_ (done_of HT_.out Z21) ?_
          try go_wp2
          go_roundg k1
          case measure => have := HK1.out; omega
          case rel => exact ⟨(((Ab ++ ((rd_T53 l0 Aa).f0)) ++ (⟨#[58]⟩ : ByteArray)) ++ Al), (wrap64 (Aa + 1)), Z12, Z12, H', ⟨Z114⟩, ⟨Z0⟩⟩
         ·rw [if_neg Bf] at H
          exact absurd H (by simp)
        ·rw [if_neg Bc] at H
         exact absurd H (by simp)
       ·rw [if_neg Bb] at H
        exact absurd H (by simp)
      ·rw [if_neg Bg] at H
       exact absurd H (by simp)
    ·rw [if_neg c5] at H
     have c5b0 : decide (Aa < (l0.length : Int)) = false := decide_eq_false c5; clear c5
     simp only [Option.some.injEq, Prod.mk.injEq] at H
     obtain ⟨rfl, rfl⟩ := H
     go_wp2
     go_ret2
     exact ⟨Z11, Z0⟩
 ·replace c3 := Bool.eq_false_iff.mpr c3
  subst c3
  have H1 : (some ((⟨#[]⟩ : ByteArray), false)) = some (r1, r2) := by rw [if_neg (show ¬ (false = true) by decide)] at H; exact H
  clear H; have H := H1; clear H1
  simp only [Option.some.injEq, Prod.mk.injEq] at H
  obtain ⟨rfl, rfl⟩ := H
  go_enter Tryz.func16, Tryz.ntmps16
  go_wp2_with (first | ((with_reducible refine gate_callee (f := 27) rfl ?_); refine glE (some 7) Tryz.func27 #[.slice A0 l0.length c0] ?_; (with_reducible refine (spec_l7Good.calls k _ _ l0 false _ ?side1 ?side2 A2.out).mono ?_); (case side1 => exact Z108); (case side2 => exact Bj.out); rintro e Br ⟨rfl, hb⟩; refine ⟨_, rfl, ?_⟩; replace HB := hbS Z0 hb; (try clear hb)))
  go_ret2
  exact ⟨Z11, Z0⟩
mutual
def laws_FnRecipes.j0 : Nat → List Int → List (S53) → List (S53) → Int → List (S53) → Bool → Bool → Option (Bool)
 | 0, _, _, _, _, _, _, _ => none
 | k + 1, x0, x3, x4, x5, x6, x7, x59 => if x59 = true then (none) else (if x7 = true then ((impl_MixRecipes.f k x4 x3 (wrap64 (100 - x5))).bind fun bt462 => ((impl_MixRecipes.f k x3 x4 0).bind fun bt466 => (if bt462.2 = true then ((laws_rParts.f k bt462.1 x6).bind fun t470 => (if t470 = true then (if bt466.2 = true then ((laws_rParts.f k bt466.1 x3).bind fun t471 => (if t471 = true then ((impl_IsRecipe.f k x6).bind fun t472 => (if t472 = true then (laws_FnRecipes.j1 k x0) else (none))) else (none))) else (none)) else (none))) else (none)))) else (laws_FnRecipes.j1 k x0))
def laws_FnRecipes.j1 : Nat → List Int → Option (Bool)
 | 0, _ => none
 | k + 1, x0 => (spec_DrawDepthLeft.f k x0).bind fun bt473 => ((impl_DepthLeft.f k bt473.1 bt473.2.1 bt473.2.2.1 bt473.2.2.2.1 bt473.2.2.2.2.1 bt473.2.2.2.2.2).bind fun bt484 => ((spec_DepthLeft.f k bt473.1 bt473.2.1 bt473.2.2.1 bt473.2.2.2.1 bt473.2.2.2.2.1 bt473.2.2.2.2.2).bind fun bt486 => (if bt484.1 = bt486.1 then (if (bt484.2 != bt486.2) = true then (laws_FnRecipes.j2 k x0 bt473.1 bt473.2.2.2.2.2 bt484.1 bt484.2 true bt473.2.1 bt473.2.2.1 bt473.2.2.2.1 bt473.2.2.2.2.1) else (if bt484.1 < 0 then (laws_FnRecipes.j2 k x0 bt473.1 bt473.2.2.2.2.2 bt484.1 bt484.2 true bt473.2.1 bt473.2.2.1 bt473.2.2.2.1 bt473.2.2.2.2.1) else (laws_FnRecipes.j2 k x0 bt473.1 bt473.2.2.2.2.2 bt484.1 bt484.2 (decide (bt484.1 > 100)) bt473.2.1 bt473.2.2.1 bt473.2.2.2.1 bt473.2.2.2.2.1))) else (laws_FnRecipes.j2 k x0 bt473.1 bt473.2.2.2.2.2 bt484.1 bt484.2 true bt473.2.1 bt473.2.2.1 bt473.2.2.2.1 bt473.2.2.2.2.1))))
def laws_FnRecipes.j2 : Nat → List Int → List (S53) → Int → Int → Bool → Bool → Int → Int → Int → List Int → Option (Bool)
 | 0, _, _, _, _, _, _, _, _, _, _ => none
 | k + 1, x0, x14, x16, x17, x18, x133, x484000, x484001, x484002, x484003 => if x133 = true then (none) else (if x18 = true then ((impl_NeedsFor.f k x14 x16).bind fun bt488 => (if bt488.2 = true then (laws_FnRecipes.j3 k x0 x17 bt488.1 ((bt488.1.length : Int) != (x484003.length : Int)) x484000 x484001 x484002 x484003) else (laws_FnRecipes.j3 k x0 x17 bt488.1 true x484000 x484001 x484002 x484003))) else (laws_FnRecipes.j5 k x0))
def laws_FnRecipes.j5 : Nat → List Int → Option (Bool)
 | 0, _ => none
 | k + 1, x0 => (spec_DrawRecipeText.f k x0).bind fun t494 => ((impl_RecipeText.f k t494).bind fun bt497 => ((spec_RecipeText.f k t494).bind fun bt499 => (if bt497.1.toList = bt499.1.toList then (if (bt497.2 == bt499.2) = true then ((impl_IsRecipe.f k t494).bind fun t501 => (some (bt497.2 == t501))) else (none)) else (none))))
def laws_FnRecipes.j3 : Nat → List Int → Int → List Int → Bool → Int → Int → Int → List Int → Option (Bool)
 | 0, _, _, _, _, _, _, _, _ => none
 | k + 1, x0, x17, x21, x150, x484000, x484001, x484002, x484003 => if x150 = true then (none) else (laws_FnRecipes.l0 k x0 x17 x21 0 x484000 x484001 x484002 x484003)
def laws_FnRecipes.l0 : Nat → List Int → Int → List Int → Int → Int → Int → Int → List Int → Option (Bool)
 | 0, _, _, _, _, _, _, _, _ => none
 | k + 1, x0, x17, x21, x23, x484000, x484001, x484002, x484003 => if x23 < (x21.length : Int) then (if x17 = 100 then (if 0 ≤ x23 then (if x23 < (x484003.length : Int) then (if (rd x484003 x23) < (rd x21 x23) then (none) else (laws_FnRecipes.l0 k x0 x17 x21 (wrap64 (x23 + 1)) x484000 x484001 x484002 x484003)) else (none)) else (none)) else (laws_FnRecipes.l0 k x0 x17 x21 (wrap64 (x23 + 1)) x484000 x484001 x484002 x484003)) else (laws_FnRecipes.j5 k x0)
end
def laws_FnRecipes.f (k : Nat) (l0 : List Int) : Option (Bool) := (laws_rBig.f l0).bind fun t445 => (if t445 = true then (some true) else ((spec_DrawMixRecipes.f k l0).bind fun bt446 => ((impl_MixRecipes.f k bt446.1 bt446.2.1 bt446.2.2).bind fun bt453 => ((spec_MixRecipes.f k bt446.1 bt446.2.1 bt446.2.2).bind fun bt457 => (if (bt453.2 != bt457.2) = true then (laws_FnRecipes.j0 k l0 bt446.1 bt446.2.1 bt446.2.2 bt453.1 bt453.2 true) else ((laws_rParts.f k bt453.1 bt457.1).bind fun t461 => (laws_FnRecipes.j0 k l0 bt446.1 bt446.2.1 bt446.2.2 bt453.1 bt453.2 (!t461))))))))
theorem laws_FnRecipes.calls (k : Nat) (A0 : Option Addr) (c0 : Nat) (l0 : List Int) (r : Bool) (w : World) (Gu : Kd.C (Kd.int .u8) w A0 l0.length l0) (Gv : l0.length ≤ c0) (h : laws_FnRecipes.f k l0 = some r) (hT_ : TABF w) :
  Calls Tryz.prog 3 #[.slice A0 l0.length c0] w fun e w' => e = .returned (.bool r) ∧ Below w.heap.size w w' := by
 have HTAB_ : Aside0 (∀ W, Below w.heap.size w W → TABF W) := ⟨fun W hb => TABF_below hT_ hb⟩; clear hT_; have hu33 := Tryz.underlying33; have Dc := Aside0.mk Gu; have Dd := Aside0.mk Gv; clear Gu Gv; have HB := aM (Below.refl w.heap.size w); have H : ((laws_rBig.f l0).bind fun D0 => (if D0 = true then (some true) else ((spec_DrawMixRecipes.f k l0).bind fun Aj => ((impl_MixRecipes.f k Aj.1 Aj.2.1 Aj.2.2).bind fun Ar => ((spec_MixRecipes.f k Aj.1 Aj.2.1 Aj.2.2).bind fun Bn => (if (Ar.2 != Bn.2) = true then (laws_FnRecipes.j0 k l0 Aj.1 Aj.2.1 Aj.2.2 Ar.1 Ar.2 true) else ((laws_rParts.f k Ar.1 Bn.1).bind fun Bv => (laws_FnRecipes.j0 k l0 Aj.1 Aj.2.1 Aj.2.2 Ar.1 Ar.2 (!Bv))))))))) = some r := h; clear h; replace H := Option.bind_eq_some_iff.mp H; obtain ⟨D0, E1, H⟩ := H; replace H : (if D0 = true then (some true) else ((spec_DrawMixRecipes.f k l0).bind fun Aj => ((impl_MixRecipes.f k Aj.1 Aj.2.1 Aj.2.2).bind fun Ar => ((spec_MixRecipes.f k Aj.1 Aj.2.1 Aj.2.2).bind fun Bn => (if (Ar.2 != Bn.2) = true then (laws_FnRecipes.j0 k l0 Aj.1 Aj.2.1 Aj.2.2 Ar.1 Ar.2 true) else ((laws_rParts.f k Ar.1 Bn.1).bind fun Bv => (laws_FnRecipes.j0 k l0 Aj.1 Aj.2.1 Aj.2.2 Ar.1 Ar.2 (!Bv)))))))) = some r := H; have A2 := Aside0.mk E1; clear E1
 by_cases c3 : D0 = true
 ·subst c3
  have H1 : (some true) = some r := by rw [if_pos rfl] at H; exact H
  clear H; have H := H1; clear H1; obtain rfl := Option.some.inj H
  go_enter Tryz.func3, Tryz.ntmps3
  go_wp2_with (first | (go_at_call 4; (with_reducible refine (laws_rBig.calls _ _ l0 true _ ?side1 ?side2 A2.out).mono ?_); (case side1 => exact Z49); (case side2 => exact Dd.out); rintro e w' ⟨rfl, ⟨nd, rfl⟩⟩; (try first | exact ⟨rfl, _, World.drewN_drewN _ _ _⟩ | exact ⟨rfl, _, Eq.trans (World.drewN_drewN _ _ _) (congrArg (World.drewN _) (Nat.add_assoc _ _ _))⟩)))
  repeat (go_quiet (first | (go_at_call 4; (with_reducible refine (laws_rBig.calls _ _ l0 true _ ?side1 ?side2 A2.out).mono ?_); (case side1 => exact Z49); (case side2 => exact Dd.out); rintro e w' ⟨rfl, ⟨nd, rfl⟩⟩; (try first | exact ⟨rfl, _, World.drewN_drewN _ _ _⟩ | exact ⟨rfl, _, Eq.trans (World.drewN_drewN _ _ _) (congrArg (World.drewN _) (Nat.add_assoc _ _ _))⟩))); try go_wp2_with (first | (go_at_call 4; (with_reducible refine (laws_rBig.calls _ _ l0 true _ ?side1 ?side2 A2.out).mono ?_); (case side1 => exact Z49); (case side2 => exact Dd.out); rintro e w' ⟨rfl, ⟨nd, rfl⟩⟩; (try first | exact ⟨rfl, _, World.drewN_drewN _ _ _⟩ | exact ⟨rfl, _, Eq.trans (World.drewN_drewN _ _ _) (congrArg (World.drewN _) (Nat.add_assoc _ _ _))⟩))))
  go_ret
  exact ⟨Z11, Z0⟩
 ·replace c3 := Bool.eq_false_iff.mpr c3
  subst c3
  have H1 : ((spec_DrawMixRecipes.f k l0).bind fun Aj => ((impl_MixRecipes.f k Aj.1 Aj.2.1 Aj.2.2).bind fun Ar => ((spec_MixRecipes.f k Aj.1 Aj.2.1 Aj.2.2).bind fun Bn => (if (Ar.2 != Bn.2) = true then (laws_FnRecipes.j0 k l0 Aj.1 Aj.2.1 Aj.2.2 Ar.1 Ar.2 true) else ((laws_rParts.f k Ar.1 Bn.1).bind fun Bv => (laws_FnRecipes.j0 k l0 Aj.1 Aj.2.1 Aj.2.2 Ar.1 Ar.2 (!Bv))))))) = some r := by rw [if_neg (show ¬ (false = true) by decide)] at H; exact H
  clear H; have H := H1; clear H1; replace H := Option.bind_eq_some_iff.mp H; obtain ⟨⟨Ao, Az, Bi⟩, Gw, H⟩ := H; replace H : ((impl_MixRecipes.f k Ao Az Bi).bind fun Ar => ((spec_MixRecipes.f k Ao Az Bi).bind fun Bn => (if (Ar.2 != Bn.2) = true then (laws_FnRecipes.j0 k l0 Ao Az Bi Ar.1 Ar.2 true) else ((laws_rParts.f k Ar.1 Bn.1).bind fun Bv => (laws_FnRecipes.j0 k l0 Ao Az Bi Ar.1 Ar.2 (!Bv)))))) = some r := H; have A4 := Aside0.mk Gw; clear Gw; replace H := Option.bind_eq_some_iff.mp H; obtain ⟨⟨Ax, Bo⟩, Gx, H⟩ := H; replace H : ((spec_MixRecipes.f k Ao Az Bi).bind fun Bn => (if (Bo != Bn.2) = true then (laws_FnRecipes.j0 k l0 Ao Az Bi Ax Bo true) else ((laws_rParts.f k Ax Bn.1).bind fun Bv => (laws_FnRecipes.j0 k l0 Ao Az Bi Ax Bo (!Bv))))) = some r := H; have A5 := Aside0.mk Gx; clear Gx; replace H := Option.bind_eq_some_iff.mp H; obtain ⟨⟨De, Cm⟩, Gy, H⟩ := H; replace H : (if (Bo != Cm) = true then (laws_FnRecipes.j0 k l0 Ao Az Bi Ax Bo true) else ((laws_rParts.f k Ax De).bind fun Bv => (laws_FnRecipes.j0 k l0 Ao Az Bi Ax Bo (!Bv)))) = some r := H; have A6 := Aside0.mk Gy; clear Gy; have F7 := Aside0.mk H; clear H
  go_enter Tryz.func3, Tryz.ntmps3
  go_upto_region 6 with (first | (go_at_call 4; (with_reducible refine (laws_rBig.calls _ _ l0 false _ ?side1 ?side2 A2.out).mono ?_); (case side1 => exact Z49); (case side2 => exact Dd.out); rintro e w' ⟨rfl, ⟨nd, rfl⟩⟩; (try first | exact ⟨rfl, _, World.drewN_drewN _ _ _⟩ | exact ⟨rfl, _, Eq.trans (World.drewN_drewN _ _ _) (congrArg (World.drewN _) (Nat.add_assoc _ _ _))⟩)) | (go_at_call 5; (with_reducible refine (spec_DrawMixRecipes.calls k _ _ l0 Ao Az Bi _ ?side1 ?side2 A4.out).mono ?_); (case side1 => exact Z49); (case side2 => exact Dd.out); rintro e w8 ⟨E4, E5, rfl, An, C4, hb⟩; have Al := aM (Kd.R_lower An (below_size Z0)); have Am := aM (Kd.R_lower C4 (below_size Z0)); replace HB := hbS Z0 hb; (try clear hb); (try clear An); (try clear C4); obtain ⟨E6, E7, E8⟩ := Kd.R_slice Al.out; subst E8; obtain ⟨Dk, Dl, Dm⟩ := Kd.R_slice Am.out; subst Dm) | (go_at_call 6; (with_reducible refine (impl_MixRecipes.calls k _ _ Ao _ _ Az Bi Ax Bo _ ?side1 ?side2 ?side3 ?side4 A5.out).mono ?_); (case side1 => exact Z63); (case side2 => exact (Kd.R_reads' Al.out).2.1); (case side3 => exact Z64); (case side4 => exact (Kd.R_reads' Am.out).2.1); rintro e Gz ⟨Dn, rfl, An, hb⟩; have Bc := aM (Kd.R_lower (Kd.R_new' (Kd.R_new' An (Kd.R_lt Z53)) (Kd.R_lt Z54)) (below_size Z0)); replace Al := aM (Kd.R_elder' Z53 (Kd.R_base An) hb); replace Am := aM (Kd.R_elder' Z54 (Kd.R_base An) hb); replace HB := hbS Z0 hb; (try clear hb); (try clear An)) | (go_at_call 7; (with_reducible refine (spec_MixRecipes.calls k _ _ Ao _ _ Az Bi De Cm _ ?side1 ?side2 ?side3 ?side4 A6.out).mono ?_); (case side1 => exact Z63); (case side2 => exact (Kd.R_reads' Al.out).2.1); (case side3 => exact Z64); (case side4 => exact (Kd.R_reads' Am.out).2.1); rintro e G0 ⟨E9, rfl, An, hb⟩; have Ci := aM (Kd.R_lower (Kd.R_new' (Kd.R_new' (Kd.R_new' An (Kd.R_lt Z53)) (Kd.R_lt Z54)) (Kd.R_lt Z51)) (below_size Z0)); replace Al := aM (Kd.R_elder' Z53 (Kd.R_base An) hb); replace Am := aM (Kd.R_elder' Z54 (Kd.R_base An) hb); replace Bc := aM (Kd.R_elder' Z51 (Kd.R_base An) hb); replace HB := hbS Z0 hb; (try clear hb); (try clear An)))
  repeat (go_quiet (first | (go_at_call 4; (with_reducible refine (laws_rBig.calls _ _ l0 false _ ?side1 ?side2 A2.out).mono ?_); (case side1 => exact Z49); (case side2 => exact Dd.out); rintro e w' ⟨rfl, ⟨nd, rfl⟩⟩; (try first | exact ⟨rfl, _, World.drewN_drewN _ _ _⟩ | exact ⟨rfl, _, Eq.trans (World.drewN_drewN _ _ _) (congrArg (World.drewN _) (Nat.add_assoc _ _ _))⟩)) | (go_at_call 5; (with_reducible refine (spec_DrawMixRecipes.calls k _ _ l0 Ao Az Bi _ ?side1 ?side2 A4.out).mono ?_); (case side1 => exact Z49); (case side2 => exact Dd.out); rintro e w8 ⟨E4, E5, rfl, An, C4, hb⟩; have Al := aM (Kd.R_lower An (below_size Z0)); have Am := aM (Kd.R_lower C4 (below_size Z0)); replace HB := hbS Z0 hb; (try clear hb); (try clear An); (try clear C4); obtain ⟨E6, E7, E8⟩ := Kd.R_slice Al.out; subst E8; obtain ⟨Dk, Dl, Dm⟩ := Kd.R_slice Am.out; subst Dm) | (go_at_call 6; (with_reducible refine (impl_MixRecipes.calls k _ _ Ao _ _ Az Bi Ax Bo _ ?side1 ?side2 ?side3 ?side4 A5.out).mono ?_); (case side1 => exact Z63); (case side2 => exact (Kd.R_reads' Al.out).2.1); (case side3 => exact Z64); (case side4 => exact (Kd.R_reads' Am.out).2.1); rintro e Gz ⟨Dn, rfl, An, hb⟩; have Bc := aM (Kd.R_lower (Kd.R_new' (Kd.R_new' An (Kd.R_lt Z53)) (Kd.R_lt Z54)) (below_size Z0)); replace Al := aM (Kd.R_elder' Z53 (Kd.R_base An) hb); replace Am := aM (Kd.R_elder' Z54 (Kd.R_base An) hb); replace HB := hbS Z0 hb; (try clear hb); (try clear An)) | (go_at_call 7; (with_reducible refine (spec_MixRecipes.calls k _ _ Ao _ _ Az Bi De Cm _ ?side1 ?side2 ?side3 ?side4 A6.out).mono ?_); (case side1 => exact Z63); (case side2 => exact (Kd.R_reads' Al.out).2.1); (case side3 => exact Z64); (case side4 => exact (Kd.R_reads' Am.out).2.1); rintro e G0 ⟨E9, rfl, An, hb⟩; have Ci := aM (Kd.R_lower (Kd.R_new' (Kd.R_new' (Kd.R_new' An (Kd.R_lt Z53)) (Kd.R_lt Z54)) (Kd.R_lt Z51)) (below_size Z0)); replace Al := aM (Kd.R_elder' Z53 (Kd.R_base An) hb); replace Am := aM (Kd.R_elder' Z54 (Kd.R_base An) hb); replace Bc := aM (Kd.R_elder' Z51 (Kd.R_base An) hb); replace HB := hbS Z0 hb; (try clear hb); (try clear An))); go_upto_region 6 with (first | (go_at_call 4; (with_reducible refine (laws_rBig.calls _ _ l0 false _ ?side1 ?side2 A2.out).mono ?_); (case side1 => exact Z49); (case side2 => exact Dd.out); rintro e w' ⟨rfl, ⟨nd, rfl⟩⟩; (try first | exact ⟨rfl, _, World.drewN_drewN _ _ _⟩ | exact ⟨rfl, _, Eq.trans (World.drewN_drewN _ _ _) (congrArg (World.drewN _) (Nat.add_assoc _ _ _))⟩)) | (go_at_call 5; (with_reducible refine (spec_DrawMixRecipes.calls k _ _ l0 Ao Az Bi _ ?side1 ?side2 A4.out).mono ?_); (case side1 => exact Z49); (case side2 => exact Dd.out); rintro e w8 ⟨E4, E5, rfl, An, C4, hb⟩; have Al := aM (Kd.R_lower An (below_size Z0)); have Am := aM (Kd.R_lower C4 (below_size Z0)); replace HB := hbS Z0 hb; (try clear hb); (try clear An); (try clear C4); obtain ⟨E6, E7, E8⟩ := Kd.R_slice Al.out; subst E8; obtain ⟨Dk, Dl, Dm⟩ := Kd.R_slice Am.out; subst Dm) | (go_at_call 6; (with_reducible refine (impl_MixRecipes.calls k _ _ Ao _ _ Az Bi Ax Bo _ ?side1 ?side2 ?side3 ?side4 A5.out).mono ?_); (case side1 => exact Z63); (case side2 => exact (Kd.R_reads' Al.out).2.1); (case side3 => exact Z64); (case side4 => exact (Kd.R_reads' Am.out).2.1); rintro e Gz ⟨Dn, rfl, An, hb⟩; have Bc := aM (Kd.R_lower (Kd.R_new' (Kd.R_new' An (Kd.R_lt Z53)) (Kd.R_lt Z54)) (below_size Z0)); replace Al := aM (Kd.R_elder' Z53 (Kd.R_base An) hb); replace Am := aM (Kd.R_elder' Z54 (Kd.R_base An) hb); replace HB := hbS Z0 hb; (try clear hb); (try clear An)) | (go_at_call 7; (with_reducible refine (spec_MixRecipes.calls k _ _ Ao _ _ Az Bi De Cm _ ?side1 ?side2 ?side3 ?side4 A6.out).mono ?_); (case side1 => exact Z63); (case side2 => exact (Kd.R_reads' Al.out).2.1); (case side3 => exact Z64); (case side4 => exact (Kd.R_reads' Am.out).2.1); rintro e G0 ⟨E9, rfl, An, hb⟩; have Ci := aM (Kd.R_lower (Kd.R_new' (Kd.R_new' (Kd.R_new' An (Kd.R_lt Z53)) (Kd.R_lt Z54)) (Kd.R_lt Z51)) (below_size Z0)); replace Al := aM (Kd.R_elder' Z53 (Kd.R_base An) hb); replace Am := aM (Kd.R_elder' Z54 (Kd.R_base An) hb); replace Bc := aM (Kd.R_elder' Z51 (Kd.R_base An) hb); replace HB := hbS Z0 hb; (try clear hb); (try clear An))))
  (try simp only [Act.put, List.setIfInBounds_toArray, List.set_cons_zero, List.set_cons_succ])
  go_cut [59] (fun Hd wc => ∃ (kq : Nat) (Dh : Bool), Hd = .bool Dh ∧ Aside0 (laws_FnRecipes.j0 kq l0 Ao Az Bi Ax Bo Dh = some r) ∧ Aside0 (kq ≤ k) ∧ Aside0 (Kd.R k53 53 wc w.heap.size (fun k_ => nS k_ Dk Az.length Dl ∧ nV k_ Dn) (.slice E6 Ao.length E7) Ao) ∧ Aside0 (Kd.R k53 53 wc w.heap.size (fun k_ => nS k_ E6 Ao.length E7 ∧ nV k_ Dn) (.slice Dk Az.length Dl) Az) ∧ Aside0 (Kd.R k53 53 wc w.heap.size (fun k_ => nS k_ E6 Ao.length E7 ∧ nS k_ Dk Az.length Dl) Dn Ax) ∧ Aside0 (Below w.heap.size w wc))
  case first => as_aux_lemma =>
   have H := F7.out; clear F7
   by_cases C5 : (Bo != Cm) = true
   ·rw [if_pos C5] at H
    have c13b0 : (Bo != Cm) = true := C5
    (try (have c13b1 : decide (Bo = Cm) = false := Z140))
    (try (have c13b2 : (Bo == Cm) = false := Z140))
    (try (have c13b3 : ¬ (Bo = Cm) := Z140))
    clear C5
    (first | rw [c13b0] | (simp only [i64_w, i32_w]; rw [c13b0]) | skip)
    have H' := Aside0.mk H; clear H
    go_wp2
    repeat (go_quiet (fail); try go_wp2)
    go_meet
    case rel => exact ⟨_, (true), Z12, H', ⟨Z90⟩, ⟨Z115⟩, ⟨Z116⟩, ⟨Z113⟩, ⟨Z0⟩⟩
   ·rw [if_neg C5] at H
    have c13b0 : (Bo != Cm) = false := by simpa using C5
    (try (have c13b1 : decide (Bo = Cm) = true := Z140))
    (try (have c13b2 : (Bo == Cm) = true := Z140))
    clear C5
    (first | rw [c13b0] | (simp only [i64_w, i32_w]; rw [c13b0]) | skip)
    replace H := Option.bind_eq_some_iff.mp H; obtain ⟨Bv, Fa, H⟩ := H; replace H : (laws_FnRecipes.j0 k l0 Ao Az Bi Ax Bo (!Bv)) = some r := H; have F8 := Aside0.mk Fa; clear Fa; have H' := Aside0.mk H; clear H; obtain ⟨He, Hf, F9⟩ := Kd.R_slice Bc.out; subst F9; obtain ⟨Hg, Hh, Ga⟩ := Kd.R_slice Ci.out; subst Ga
    go_wp2_with (first | (go_at_call 8; (with_reducible refine (laws_rParts.calls k _ _ Ax _ _ De Bv _ ?side1 ?side2 ?side3 ?side4 F8.out).mono ?_); (case side1 => exact Z78); (case side2 => exact (Kd.R_reads' Bc.out).2.1); (case side3 => exact Z85); (case side4 => exact (Kd.R_reads' Ci.out).2.1); rintro e w' ⟨rfl, ⟨nd, rfl⟩⟩; (try first | exact ⟨rfl, _, World.drewN_drewN _ _ _⟩ | exact ⟨rfl, _, Eq.trans (World.drewN_drewN _ _ _) (congrArg (World.drewN _) (Nat.add_assoc _ _ _))⟩)))
    repeat (go_quiet (first | (go_at_call 8; (with_reducible refine (laws_rParts.calls k _ _ Ax _ _ De Bv _ ?side1 ?side2 ?side3 ?side4 F8.out).mono ?_); (case side1 => exact Z78); (case side2 => exact (Kd.R_reads' Bc.out).2.1); (case side3 => exact Z85); (case side4 => exact (Kd.R_reads' Ci.out).2.1); rintro e w' ⟨rfl, ⟨nd, rfl⟩⟩; (try first | exact ⟨rfl, _, World.drewN_drewN _ _ _⟩ | exact ⟨rfl, _, Eq.trans (World.drewN_drewN _ _ _) (congrArg (World.drewN _) (Nat.add_assoc _ _ _))⟩))); try go_wp2_with (first | (go_at_call 8; (with_reducible refine (laws_rParts.calls k _ _ Ax _ _ De Bv _ ?side1 ?side2 ?side3 ?side4 F8.out).mono ?_); (case side1 => exact Z78); (case side2 => exact (Kd.R_reads' Bc.out).2.1); (case side3 => exact Z85); (case side4 => exact (Kd.R_reads' Ci.out).2.1); rintro e w' ⟨rfl, ⟨nd, rfl⟩⟩; (try first | exact ⟨rfl, _, World.drewN_drewN _ _ _⟩ | exact ⟨rfl, _, Eq.trans (World.drewN_drewN _ _ _) (congrArg (World.drewN _) (Nat.add_assoc _ _ _))⟩))))
    go_meet
    case rel => exact ⟨_, (!Bv), Z12, H', ⟨Z90⟩, ⟨Z115⟩, ⟨Z116⟩, ⟨Z113⟩, ⟨Z0⟩⟩
  case rest =>
   clear F7; (try clear c1); (try clear p2); (try clear c3); (try clear C5); (try clear c13b0); (try clear c13b1); (try clear c13b2); obtain ⟨kq, Dh, rfl, HA, HJ6, Aq, Ay, Av, HB⟩ := hcut; cases kq with
   | zero => exact absurd HA.out (by simp [laws_FnRecipes.j0])
   | succ Bf =>
    have H := HA.out; clear HA
    simp only [laws_FnRecipes.j0] at H
    by_cases D1 : Dh = true
    ·subst D1
     have H1 : (none) = some r := by rw [if_pos rfl] at H; exact H
     clear H; have H := H1; clear H1; exact absurd H (by simp)
    ·replace D1 := Bool.eq_false_iff.mpr D1
     subst D1
     have H1 : (if Bo = true then ((impl_MixRecipes.f Bf Az Ao (wrap64 (100 - Bi))).bind fun C6 => ((impl_MixRecipes.f Bf Ao Az 0).bind fun Ck => (if C6.2 = true then ((laws_rParts.f Bf C6.1 Ax).bind fun Cn => (if Cn = true then (if Ck.2 = true then ((laws_rParts.f Bf Ck.1 Ao).bind fun Bs => (if Bs = true then ((impl_IsRecipe.f Bf Ax).bind fun Bm => (if Bm = true then (laws_FnRecipes.j1 Bf l0) else (none))) else (none))) else (none)) else (none))) else (none)))) else (laws_FnRecipes.j1 Bf l0)) = some r := by rw [if_neg (show ¬ (false = true) by decide)] at H; exact H
     clear H; have H := H1; clear H1; have Eo := Aside0.mk H; clear H
     go_upto_if 60 with (fail)
     repeat (go_quiet (fail); go_upto_if 60 with (fail))
     go_cut [] (fun wc => ∃ (kq : Nat), Aside0 (laws_FnRecipes.j1 kq l0 = some r) ∧ Aside0 (kq ≤ Bf) ∧ Aside0 (Below w.heap.size w wc))
     case first => as_aux_lemma =>
      have H := Eo.out; clear Eo
      by_cases D2 : Bo = true
      ·subst D2
       have H1 : ((impl_MixRecipes.f Bf Az Ao (wrap64 (100 - Bi))).bind fun C6 => ((impl_MixRecipes.f Bf Ao Az 0).bind fun Ck => (if C6.2 = true then ((laws_rParts.f Bf C6.1 Ax).bind fun Cn => (if Cn = true then (if Ck.2 = true then ((laws_rParts.f Bf Ck.1 Ao).bind fun Bs => (if Bs = true then ((impl_IsRecipe.f Bf Ax).bind fun Bm => (if Bm = true then (laws_FnRecipes.j1 Bf l0) else (none))) else (none))) else (none)) else (none))) else (none)))) = some r := by rw [if_pos rfl] at H; exact H
       clear H; have H := H1; clear H1; replace H := Option.bind_eq_some_iff.mp H; obtain ⟨⟨Cu, Ep⟩, Fb, H⟩ := H; replace H : ((impl_MixRecipes.f Bf Ao Az 0).bind fun Ck => (if Ep = true then ((laws_rParts.f Bf Cu Ax).bind fun Cn => (if Cn = true then (if Ck.2 = true then ((laws_rParts.f Bf Ck.1 Ao).bind fun Bs => (if Bs = true then ((impl_IsRecipe.f Bf Ax).bind fun Bm => (if Bm = true then (laws_FnRecipes.j1 Bf l0) else (none))) else (none))) else (none)) else (none))) else (none))) = some r := H; have E1 := Aside0.mk Fb; clear Fb; replace H := Option.bind_eq_some_iff.mp H; obtain ⟨⟨Cs, Dp⟩, Fc, H⟩ := H; replace H : (if Ep = true then ((laws_rParts.f Bf Cu Ax).bind fun Cn => (if Cn = true then (if Dp = true then ((laws_rParts.f Bf Cs Ao).bind fun Bs => (if Bs = true then ((impl_IsRecipe.f Bf Ax).bind fun Bm => (if Bm = true then (laws_FnRecipes.j1 Bf l0) else (none))) else (none))) else (none)) else (none))) else (none)) = some r := H; have Gb := Aside0.mk Fc; clear Fc
       by_cases D3 : Ep = true
       ·subst D3
        have H1 : ((laws_rParts.f Bf Cu Ax).bind fun Cn => (if Cn = true then (if Dp = true then ((laws_rParts.f Bf Cs Ao).bind fun Bs => (if Bs = true then ((impl_IsRecipe.f Bf Ax).bind fun Bm => (if Bm = true then (laws_FnRecipes.j1 Bf l0) else (none))) else (none))) else (none)) else (none))) = some r := by rw [if_pos rfl] at H; exact H
        clear H; have H := H1; clear H1; replace H := Option.bind_eq_some_iff.mp H; obtain ⟨Cn, Fd, H⟩ := H; replace H : (if Cn = true then (if Dp = true then ((laws_rParts.f Bf Cs Ao).bind fun Bs => (if Bs = true then ((impl_IsRecipe.f Bf Ax).bind fun Bm => (if Bm = true then (laws_FnRecipes.j1 Bf l0) else (none))) else (none))) else (none)) else (none)) = some r := H; have Gc := Aside0.mk Fd; clear Fd
        by_cases D4 : Cn = true
        ·subst D4
         have H1 : (if Dp = true then ((laws_rParts.f Bf Cs Ao).bind fun Bs => (if Bs = true then ((impl_IsRecipe.f Bf Ax).bind fun Bm => (if Bm = true then (laws_FnRecipes.j1 Bf l0) else (none))) else (none))) else (none)) = some r := by rw [if_pos rfl] at H; exact H
         clear H; have H := H1; clear H1
         by_cases D5 : Dp = true
         ·subst D5
          have H1 : ((laws_rParts.f Bf Cs Ao).bind fun Bs => (if Bs = true then ((impl_IsRecipe.f Bf Ax).bind fun Bm => (if Bm = true then (laws_FnRecipes.j1 Bf l0) else (none))) else (none))) = some r := by rw [if_pos rfl] at H; exact H
          clear H; have H := H1; clear H1; replace H := Option.bind_eq_some_iff.mp H; obtain ⟨Bs, Fe, H⟩ := H; replace H : (if Bs = true then ((impl_IsRecipe.f Bf Ax).bind fun Bm => (if Bm = true then (laws_FnRecipes.j1 Bf l0) else (none))) else (none)) = some r := H; have Gd := Aside0.mk Fe; clear Fe
          by_cases D6 : Bs = true
          ·subst D6
           have H1 : ((impl_IsRecipe.f Bf Ax).bind fun Bm => (if Bm = true then (laws_FnRecipes.j1 Bf l0) else (none))) = some r := by rw [if_pos rfl] at H; exact H
           clear H; have H := H1; clear H1; replace H := Option.bind_eq_some_iff.mp H; obtain ⟨Bm, Ff, H⟩ := H; replace H : (if Bm = true then (laws_FnRecipes.j1 Bf l0) else (none)) = some r := H; have Ge := Aside0.mk Ff; clear Ff
           by_cases D7 : Bm = true
           ·subst D7
            have H1 : (laws_FnRecipes.j1 Bf l0) = some r := by rw [if_pos rfl] at H; exact H
            clear H; have H := H1; clear H1; have H' := Aside0.mk H; clear H
            go_wp2_with (first | (go_at_call 6; (with_reducible refine (impl_MixRecipes.calls Bf _ _ Az _ _ Ao (wrap64 (100 - Bi)) Cu true _ ?side1 ?side2 ?side3 ?side4 E1.out).mono ?_); (case side1 => exact Z65); (case side2 => exact (Kd.R_reads' Ay.out).2.1); (case side3 => exact Z40); (case side4 => exact (Kd.R_reads' Aq.out).2.1); rintro e G1 ⟨Fg, rfl, An, hb⟩; have Au := aM (Kd.R_lower (Kd.R_new' (Kd.R_new' (Kd.R_new' An (Kd.R_lt Z27)) (Kd.R_lt Z55)) (Kd.R_lt Z52)) (below_size Z0)); replace Aq := aM (Kd.R_elder' Z27 (Kd.R_base An) hb); replace Ay := aM (Kd.R_elder' Z55 (Kd.R_base An) hb); replace Av := aM (Kd.R_elder' Z52 (Kd.R_base An) hb); replace HB := hbS Z0 hb; (try clear hb); (try clear An)) | (go_at_call 6; (with_reducible refine (impl_MixRecipes.calls Bf _ _ Ao _ _ Az 0 Cs true _ ?side1 ?side2 ?side3 ?side4 Gb.out).mono ?_); (case side1 => exact Z40); (case side2 => exact (Kd.R_reads' Aq.out).2.1); (case side3 => exact Z65); (case side4 => exact (Kd.R_reads' Ay.out).2.1); rintro e G2 ⟨Fh, rfl, An, hb⟩; have Bh := aM (Kd.R_lower (Kd.R_new' (Kd.R_new' (Kd.R_new' (Kd.R_new' An (Kd.R_lt Z27)) (Kd.R_lt Z55)) (Kd.R_lt Z52)) (Kd.R_lt Z72)) (below_size Z0)); replace Aq := aM (Kd.R_elder' Z27 (Kd.R_base An) hb); replace Ay := aM (Kd.R_elder' Z55 (Kd.R_base An) hb); replace Av := aM (Kd.R_elder' Z52 (Kd.R_base An) hb); replace Au := aM (Kd.R_elder' Z72 (Kd.R_base An) hb); replace HB := hbS Z0 hb; (try clear hb); (try clear An); obtain ⟨Fi, Fj, Dq⟩ := Kd.R_slice Au.out; subst Dq; obtain ⟨Fk, Fl, Dr⟩ := Kd.R_slice Av.out; subst Dr) | (go_at_call 8; (with_reducible refine (laws_rParts.calls Bf _ _ Cu _ _ Ax true _ ?side1 ?side2 ?side3 ?side4 Gc.out).mono ?_); (case side1 => exact Z86); (case side2 => exact (Kd.R_reads' Au.out).2.1); (case side3 => exact Z66); (case side4 => exact (Kd.R_reads' Av.out).2.1); rintro e w' ⟨rfl, ⟨nd, rfl⟩⟩; (try first | exact ⟨rfl, _, World.drewN_drewN _ _ _⟩ | exact ⟨rfl, _, Eq.trans (World.drewN_drewN _ _ _) (congrArg (World.drewN _) (Nat.add_assoc _ _ _))⟩); obtain ⟨Fm, Fo, Ds⟩ := Kd.R_slice Bh.out; subst Ds) | (go_at_call 8; (with_reducible refine (laws_rParts.calls Bf _ _ Cs _ _ Ao true _ ?side1 ?side2 ?side3 ?side4 Gd.out).mono ?_); (case side1 => exact Z79); (case side2 => exact (Kd.R_reads' Bh.out).2.1); (case side3 => exact Z40); (case side4 => exact (Kd.R_reads' Aq.out).2.1); rintro e w' ⟨rfl, ⟨nd, rfl⟩⟩; (try first | exact ⟨rfl, _, World.drewN_drewN _ _ _⟩ | exact ⟨rfl, _, Eq.trans (World.drewN_drewN _ _ _) (congrArg (World.drewN _) (Nat.add_assoc _ _ _))⟩)) | (go_at_call 9; (with_reducible refine (impl_IsRecipe.calls Bf _ _ Ax true _ ?side1 ?side2 Ge.out).mono ?_); (case side1 => exact Z66); (case side2 => exact (Kd.R_reads' Av.out).2.1); rintro e G3 ⟨rfl, hb⟩; replace Aq := roB Aq hb; replace Ay := roB Ay hb; replace Av := roB Av hb; replace Au := roB Au hb; replace Bh := roB Bh hb; replace HB := hbS Z0 hb; (try clear hb)))
            repeat (go_quiet (first | (go_at_call 6; (with_reducible refine (impl_MixRecipes.calls Bf _ _ Az _ _ Ao (wrap64 (100 - Bi)) Cu true _ ?side1 ?side2 ?side3 ?side4 E1.out).mono ?_); (case side1 => exact Z65); (case side2 => exact (Kd.R_reads' Ay.out).2.1); (case side3 => exact Z40); (case side4 => exact (Kd.R_reads' Aq.out).2.1); rintro e G1 ⟨Fg, rfl, An, hb⟩; have Au := aM (Kd.R_lower (Kd.R_new' (Kd.R_new' (Kd.R_new' An (Kd.R_lt Z27)) (Kd.R_lt Z55)) (Kd.R_lt Z52)) (below_size Z0)); replace Aq := aM (Kd.R_elder' Z27 (Kd.R_base An) hb); replace Ay := aM (Kd.R_elder' Z55 (Kd.R_base An) hb); replace Av := aM (Kd.R_elder' Z52 (Kd.R_base An) hb); replace HB := hbS Z0 hb; (try clear hb); (try clear An)) | (go_at_call 6; (with_reducible refine (impl_MixRecipes.calls Bf _ _ Ao _ _ Az 0 Cs true _ ?side1 ?side2 ?side3 ?side4 Gb.out).mono ?_); (case side1 => exact Z40); (case side2 => exact (Kd.R_reads' Aq.out).2.1); (case side3 => exact Z65); (case side4 => exact (Kd.R_reads' Ay.out).2.1); rintro e G2 ⟨Fh, rfl, An, hb⟩; have Bh := aM (Kd.R_lower (Kd.R_new' (Kd.R_new' (Kd.R_new' (Kd.R_new' An (Kd.R_lt Z27)) (Kd.R_lt Z55)) (Kd.R_lt Z52)) (Kd.R_lt Z72)) (below_size Z0)); replace Aq := aM (Kd.R_elder' Z27 (Kd.R_base An) hb); replace Ay := aM (Kd.R_elder' Z55 (Kd.R_base An) hb); replace Av := aM (Kd.R_elder' Z52 (Kd.R_base An) hb); replace Au := aM (Kd.R_elder' Z72 (Kd.R_base An) hb); replace HB := hbS Z0 hb; (try clear hb); (try clear An); obtain ⟨Fi, Fj, Dq⟩ := Kd.R_slice Au.out; subst Dq; obtain ⟨Fk, Fl, Dr⟩ := Kd.R_slice Av.out; subst Dr) | (go_at_call 8; (with_reducible refine (laws_rParts.calls Bf _ _ Cu _ _ Ax true _ ?side1 ?side2 ?side3 ?side4 Gc.out).mono ?_); (case side1 => exact Z86); (case side2 => exact (Kd.R_reads' Au.out).2.1); (case side3 => exact Z66); (case side4 => exact (Kd.R_reads' Av.out).2.1); rintro e w' ⟨rfl, ⟨nd, rfl⟩⟩; (try first | exact ⟨rfl, _, World.drewN_drewN _ _ _⟩ | exact ⟨rfl, _, Eq.trans (World.drewN_drewN _ _ _) (congrArg (World.drewN _) (Nat.add_assoc _ _ _))⟩); obtain ⟨Fm, Fo, Ds⟩ := Kd.R_slice Bh.out; subst Ds) | (go_at_call 8; (with_reducible refine (laws_rParts.calls Bf _ _ Cs _ _ Ao true _ ?side1 ?side2 ?side3 ?side4 Gd.out).mono ?_); (case side1 => exact Z79); (case side2 => exact (Kd.R_reads' Bh.out).2.1); (case side3 => exact Z40); (case side4 => exact (Kd.R_reads' Aq.out).2.1); rintro e w' ⟨rfl, ⟨nd, rfl⟩⟩; (try first | exact ⟨rfl, _, World.drewN_drewN _ _ _⟩ | exact ⟨rfl, _, Eq.trans (World.drewN_drewN _ _ _) (congrArg (World.drewN _) (Nat.add_assoc _ _ _))⟩)) | (go_at_call 9; (with_reducible refine (impl_IsRecipe.calls Bf _ _ Ax true _ ?side1 ?side2 Ge.out).mono ?_); (case side1 => exact Z66); (case side2 => exact (Kd.R_reads' Av.out).2.1); rintro e G3 ⟨rfl, hb⟩; replace Aq := roB Aq hb; replace Ay := roB Ay hb; replace Av := roB Av hb; replace Au := roB Au hb; replace Bh := roB Bh hb; replace HB := hbS Z0 hb; (try clear hb))); try go_wp2_with (first | (go_at_call 6; (with_reducible refine (impl_MixRecipes.calls Bf _ _ Az _ _ Ao (wrap64 (100 - Bi)) Cu true _ ?side1 ?side2 ?side3 ?side4 E1.out).mono ?_); (case side1 => exact Z65); (case side2 => exact (Kd.R_reads' Ay.out).2.1); (case side3 => exact Z40); (case side4 => exact (Kd.R_reads' Aq.out).2.1); rintro e G1 ⟨Fg, rfl, An, hb⟩; have Au := aM (Kd.R_lower (Kd.R_new' (Kd.R_new' (Kd.R_new' An (Kd.R_lt Z27)) (Kd.R_lt Z55)) (Kd.R_lt Z52)) (below_size Z0)); replace Aq := aM (Kd.R_elder' Z27 (Kd.R_base An) hb); replace Ay := aM (Kd.R_elder' Z55 (Kd.R_base An) hb); replace Av := aM (Kd.R_elder' Z52 (Kd.R_base An) hb); replace HB := hbS Z0 hb; (try clear hb); (try clear An)) | (go_at_call 6; (with_reducible refine (impl_MixRecipes.calls Bf _ _ Ao _ _ Az 0 Cs true _ ?side1 ?side2 ?side3 ?side4 Gb.out).mono ?_); (case side1 => exact Z40); (case side2 => exact (Kd.R_reads' Aq.out).2.1); (case side3 => exact Z65); (case side4 => exact (Kd.R_reads' Ay.out).2.1); rintro e G2 ⟨Fh, rfl, An, hb⟩; have Bh := aM (Kd.R_lower (Kd.R_new' (Kd.R_new' (Kd.R_new' (Kd.R_new' An (Kd.R_lt Z27)) (Kd.R_lt Z55)) (Kd.R_lt Z52)) (Kd.R_lt Z72)) (below_size Z0)); replace Aq := aM (Kd.R_elder' Z27 (Kd.R_base An) hb); replace Ay := aM (Kd.R_elder' Z55 (Kd.R_base An) hb); replace Av := aM (Kd.R_elder' Z52 (Kd.R_base An) hb); replace Au := aM (Kd.R_elder' Z72 (Kd.R_base An) hb); replace HB := hbS Z0 hb; (try clear hb); (try clear An); obtain ⟨Fi, Fj, Dq⟩ := Kd.R_slice Au.out; subst Dq; obtain ⟨Fk, Fl, Dr⟩ := Kd.R_slice Av.out; subst Dr) | (go_at_call 8; (with_reducible refine (laws_rParts.calls Bf _ _ Cu _ _ Ax true _ ?side1 ?side2 ?side3 ?side4 Gc.out).mono ?_); (case side1 => exact Z86); (case side2 => exact (Kd.R_reads' Au.out).2.1); (case side3 => exact Z66); (case side4 => exact (Kd.R_reads' Av.out).2.1); rintro e w' ⟨rfl, ⟨nd, rfl⟩⟩; (try first | exact ⟨rfl, _, World.drewN_drewN _ _ _⟩ | exact ⟨rfl, _, Eq.trans (World.drewN_drewN _ _ _) (congrArg (World.drewN _) (Nat.add_assoc _ _ _))⟩); obtain ⟨Fm, Fo, Ds⟩ := Kd.R_slice Bh.out; subst Ds) | (go_at_call 8; (with_reducible refine (laws_rParts.calls Bf _ _ Cs _ _ Ao true _ ?side1 ?side2 ?side3 ?side4 Gd.out).mono ?_); (case side1 => exact Z79); (case side2 => exact (Kd.R_reads' Bh.out).2.1); (case side3 => exact Z40); (case side4 => exact (Kd.R_reads' Aq.out).2.1); rintro e w' ⟨rfl, ⟨nd, rfl⟩⟩; (try first | exact ⟨rfl, _, World.drewN_drewN _ _ _⟩ | exact ⟨rfl, _, Eq.trans (World.drewN_drewN _ _ _) (congrArg (World.drewN _) (Nat.add_assoc _ _ _))⟩)) | (go_at_call 9; (with_reducible refine (impl_IsRecipe.calls Bf _ _ Ax true _ ?side1 ?side2 Ge.out).mono ?_); (case side1 => exact Z66); (case side2 => exact (Kd.R_reads' Av.out).2.1); rintro e G3 ⟨rfl, hb⟩; replace Aq := roB Aq hb; replace Ay := roB Ay hb; replace Av := roB Av hb; replace Au := roB Au hb; replace Bh := roB Bh hb; replace HB := hbS Z0 hb; (try clear hb))))
            go_meet
            case rel => exact ⟨_, H', ⟨Z137⟩, ⟨Z0⟩⟩
           ·replace D7 := Bool.eq_false_iff.mpr D7
            subst D7
            have H1 : (none) = some r := by rw [if_neg (show ¬ (false = true) by decide)] at H; exact H
            clear H; have H := H1; clear H1; exact absurd H (by simp)
          ·replace D6 := Bool.eq_false_iff.mpr D6
           subst D6
           have H1 : (none) = some r := by rw [if_neg (show ¬ (false = true) by decide)] at H; exact H
           clear H; have H := H1; clear H1; exact absurd H (by simp)
         ·replace D5 := Bool.eq_false_iff.mpr D5
          subst D5
          have H1 : (none) = some r := by rw [if_neg (show ¬ (false = true) by decide)] at H; exact H
          clear H; have H := H1; clear H1; exact absurd H (by simp)
        ·replace D4 := Bool.eq_false_iff.mpr D4
         subst D4
         have H1 : (none) = some r := by rw [if_neg (show ¬ (false = true) by decide)] at H; exact H
         clear H; have H := H1; clear H1; exact absurd H (by simp)
       ·replace D3 := Bool.eq_false_iff.mpr D3
        subst D3
        have H1 : (none) = some r := by rw [if_neg (show ¬ (false = true) by decide)] at H; exact H
        clear H; have H := H1; clear H1; exact absurd H (by simp)
      ·replace D2 := Bool.eq_false_iff.mpr D2
       subst D2
       have H1 : (laws_FnRecipes.j1 Bf l0) = some r := by rw [if_neg (show ¬ (false = true) by decide)] at H; exact H
       clear H; have H := H1; clear H1; have H' := Aside0.mk H; clear H
       go_wp2
       repeat (go_quiet (fail); try go_wp2)
       go_meet
       case rel => exact ⟨_, H', ⟨Z137⟩, ⟨Z0⟩⟩
     case rest =>
      clear Eo; (try clear c1); (try clear c2); (try clear p2); (try clear c3); (try clear p6); (try clear C5); (try clear c13b0); (try clear c13b1); (try clear c13b2); (try clear D1); (try clear D2); (try clear D3); (try clear D4); (try clear D5); (try clear D6); (try clear D7); (try clear p2); obtain ⟨kq, HA, HJ17, HB⟩ := hcut; cases kq with
      | zero => exact absurd HA.out (by simp [laws_FnRecipes.j1])
      | succ Bj =>
       have H := HA.out; clear HA
       simp only [laws_FnRecipes.j1] at H
       replace H := Option.bind_eq_some_iff.mp H; obtain ⟨⟨Ba, Ad, Ag, Ak, Ac, Bd⟩, Fp, H⟩ := H; replace H : ((impl_DepthLeft.f Bj Ba Ad Ag Ak Ac Bd).bind fun Bq => ((spec_DepthLeft.f Bj Ba Ad Ag Ak Ac Bd).bind fun C7 => (if Bq.1 = C7.1 then (if (Bq.2 != C7.2) = true then (laws_FnRecipes.j2 Bj l0 Ba Bd Bq.1 Bq.2 true Ad Ag Ak Ac) else (if Bq.1 < 0 then (laws_FnRecipes.j2 Bj l0 Ba Bd Bq.1 Bq.2 true Ad Ag Ak Ac) else (laws_FnRecipes.j2 Bj l0 Ba Bd Bq.1 Bq.2 (decide (Bq.1 > 100)) Ad Ag Ak Ac))) else (laws_FnRecipes.j2 Bj l0 Ba Bd Bq.1 Bq.2 true Ad Ag Ak Ac)))) = some r := H; have Gf := Aside0.mk Fp; clear Fp; replace H := Option.bind_eq_some_iff.mp H; obtain ⟨⟨Ap, Bl⟩, Fq, H⟩ := H; replace H : ((spec_DepthLeft.f Bj Ba Ad Ag Ak Ac Bd).bind fun C7 => (if Ap = C7.1 then (if (Bl != C7.2) = true then (laws_FnRecipes.j2 Bj l0 Ba Bd Ap Bl true Ad Ag Ak Ac) else (if Ap < 0 then (laws_FnRecipes.j2 Bj l0 Ba Bd Ap Bl true Ad Ag Ak Ac) else (laws_FnRecipes.j2 Bj l0 Ba Bd Ap Bl (decide (Ap > 100)) Ad Ag Ak Ac))) else (laws_FnRecipes.j2 Bj l0 Ba Bd Ap Bl true Ad Ag Ak Ac))) = some r := H; have Gg := Aside0.mk Fq; clear Fq; replace H := Option.bind_eq_some_iff.mp H; obtain ⟨⟨Cv, Co⟩, Fr, H⟩ := H; replace H : (if Ap = Cv then (if (Bl != Co) = true then (laws_FnRecipes.j2 Bj l0 Ba Bd Ap Bl true Ad Ag Ak Ac) else (if Ap < 0 then (laws_FnRecipes.j2 Bj l0 Ba Bd Ap Bl true Ad Ag Ak Ac) else (laws_FnRecipes.j2 Bj l0 Ba Bd Ap Bl (decide (Ap > 100)) Ad Ag Ak Ac))) else (laws_FnRecipes.j2 Bj l0 Ba Bd Ap Bl true Ad Ag Ak Ac)) = some r := H; have Gh := Aside0.mk Fr; clear Fr; have Er := Aside0.mk H; clear H
       go_upto_region 16 with (first | (go_at_call 10; (with_reducible refine (spec_DrawDepthLeft.calls Bj _ _ l0 Ba Ad Ag Ak Ac Bd _ ?side1 ?side2 Gf.out).mono ?_); (case side1 => exact Z62); (case side2 => exact Dd.out); rintro e G4 ⟨Fs, Ft, rfl, An, C4, hb⟩; have Ah := aM (Kd.R_lower An (below_size Z0)); have Ai := aM (Kd.R_lower C4 (below_size Z0)); replace HB := hbS Z0 hb; (try clear hb); (try clear An); (try clear C4)) | ((with_reducible refine gate_dst (N := 15) rfl ?_); (try (refine gate_guard (by rfl) ?_; dsimp only)); refine bxE 15 #[.int .i64 0, .int .i64 0, .int .i64 0, .slice none 0 0] 33 ?_; intro Ab hg G5 hbox hb; replace Ah := roB Ah hb; replace Ai := roB Ai hb; have Aa := aM (hbox); have Em := gwS hg Z0; have Aw := gwS hg Z0; replace HB := hbS Z0 hb; clear hb hbox hg; obtain ⟨Bx, Bz, B0, B1⟩ := bz4 Aa; obtain ⟨B2, B3, B6, B8⟩ := fz4 Aa; obtain ⟨Bk, Bg, Dt⟩ := Kd.R_slice Ai.out; subst Dt; obtain ⟨Es, Di, Du⟩ := Kd.R_slice Ah.out; subst Du) | (go_at_call 11; (with_reducible refine (impl_DepthLeft.calls Bj _ _ Ba Ad Ag Ak _ _ Ac Bd Ap Bl _ ?side1 ?side2 ?side3 ?side4 Gg.out).mono ?_); (case side1 => refine (Kd.R_reads' (e := 53) (base := w.heap.size) (ok := fun k_ => True) (n := Ba.length) (c := Di) ?_).2.2; exact (by (with_reducible repeat (first | apply Kd.R_alloc | apply Kd.R_drewN | apply Kd.R_drew)); exact (Kd.R_mono (Kd.R_far (p := ⟨Ab, 3, none⟩) (Kd.R_far (p := ⟨Ab, 2, none⟩) (Kd.R_far (p := ⟨Ab, 1, none⟩) (Kd.R_far (p := ⟨Ab, 0, none⟩) (Kd.R_types Ah.out Aa.out (by decide)) (fun _ hk => hk.2) (.int .i64 Ad)) (fun _ hk => hk.2) (.int .i64 Ag)) (fun _ hk => hk.2) (.int .i64 Ak)) (fun _ hk => hk.2) (.slice Bk Ac.length Bg)) (fun _ h_ => h_.1)))); (case side2 => exact (Kd.R_reads' Ah.out).2.1); (case side3 => refine (Kd.R_reads' (e := 3) (base := w.heap.size) (ok := fun k_ => True) (n := Ac.length) (c := Bg) ?_).2.2; exact (by (with_reducible repeat (first | apply Kd.R_alloc | apply Kd.R_drewN | apply Kd.R_drew)); exact (Kd.R_mono (Kd.R_far (p := ⟨Ab, 3, none⟩) (Kd.R_far (p := ⟨Ab, 2, none⟩) (Kd.R_far (p := ⟨Ab, 1, none⟩) (Kd.R_far (p := ⟨Ab, 0, none⟩) (Kd.R_types Ai.out Aa.out (by decide)) (fun _ hk => hk.2) (.int .i64 Ad)) (fun _ hk => hk.2) (.int .i64 Ag)) (fun _ hk => hk.2) (.int .i64 Ak)) (fun _ hk => hk.2) (.slice Bk Ac.length Bg)) (fun _ h_ => h_.1)))); (case side4 => exact (Kd.R_reads' Ai.out).2.1); rintro e G6 ⟨rfl, hb⟩; replace Ah := aM (Kd.R_below (by (with_reducible repeat (first | apply Kd.R_alloc | apply Kd.R_drewN | apply Kd.R_drew)); exact (Kd.R_mono (Kd.R_far (p := ⟨Ab, 3, none⟩) (Kd.R_far (p := ⟨Ab, 2, none⟩) (Kd.R_far (p := ⟨Ab, 1, none⟩) (Kd.R_far (p := ⟨Ab, 0, none⟩) (Kd.R_types Ah.out Aa.out (by decide)) (fun _ hk => hk.2) (.int .i64 Ad)) (fun _ hk => hk.2) (.int .i64 Ag)) (fun _ hk => hk.2) (.int .i64 Ak)) (fun _ hk => hk.2) (.slice Bk Ac.length Bg)) (fun _ h_ => h_.1))) hb); replace Ai := aM (Kd.R_below (by (with_reducible repeat (first | apply Kd.R_alloc | apply Kd.R_drewN | apply Kd.R_drew)); exact (Kd.R_mono (Kd.R_far (p := ⟨Ab, 3, none⟩) (Kd.R_far (p := ⟨Ab, 2, none⟩) (Kd.R_far (p := ⟨Ab, 1, none⟩) (Kd.R_far (p := ⟨Ab, 0, none⟩) (Kd.R_types Ai.out Aa.out (by decide)) (fun _ hk => hk.2) (.int .i64 Ad)) (fun _ hk => hk.2) (.int .i64 Ag)) (fun _ hk => hk.2) (.int .i64 Ak)) (fun _ hk => hk.2) (.slice Bk Ac.length Bg)) (fun _ h_ => h_.1))) hb); replace Aa := aM (blk_below (g := Ab) (o := .cells #[.int .i64 Ad, .int .i64 Ag, .int .i64 Ak, .slice Bk Ac.length Bg] 33 (0, 0)) Z23 hb); replace HB := hbS Z16 hb; (try clear hb); obtain ⟨Ca, Cb, Cc, Cd⟩ := bz4 Aa; obtain ⟨Ce, Cf, Cg, Ch⟩ := fz4 Aa) | (go_at_call 12; (with_reducible refine (spec_DepthLeft.calls Bj _ _ Ba Ad Ag Ak _ _ Ac Bd Cv Co _ ?side1 ?side2 ?side3 ?side4 Gh.out).mono ?_); (case side1 => exact Z87); (case side2 => exact (Kd.R_reads' Ah.out).2.1); (case side3 => exact Z88); (case side4 => exact (Kd.R_reads' Ai.out).2.1); rintro e G7 ⟨rfl, hb⟩; replace Ah := roB Ah hb; replace Ai := roB Ai hb; replace Aa := bkB Aa hb; replace HB := hbS Z16 hb; (try clear hb)))
       repeat (go_quiet (first | (go_at_call 10; (with_reducible refine (spec_DrawDepthLeft.calls Bj _ _ l0 Ba Ad Ag Ak Ac Bd _ ?side1 ?side2 Gf.out).mono ?_); (case side1 => exact Z62); (case side2 => exact Dd.out); rintro e G4 ⟨Fs, Ft, rfl, An, C4, hb⟩; have Ah := aM (Kd.R_lower An (below_size Z0)); have Ai := aM (Kd.R_lower C4 (below_size Z0)); replace HB := hbS Z0 hb; (try clear hb); (try clear An); (try clear C4)) | ((with_reducible refine gate_dst (N := 15) rfl ?_); (try (refine gate_guard (by rfl) ?_; dsimp only)); refine bxE 15 #[.int .i64 0, .int .i64 0, .int .i64 0, .slice none 0 0] 33 ?_; intro Ab hg G5 hbox hb; replace Ah := roB Ah hb; replace Ai := roB Ai hb; have Aa := aM (hbox); have Em := gwS hg Z0; have Aw := gwS hg Z0; replace HB := hbS Z0 hb; clear hb hbox hg; obtain ⟨Bx, Bz, B0, B1⟩ := bz4 Aa; obtain ⟨B2, B3, B6, B8⟩ := fz4 Aa; obtain ⟨Bk, Bg, Dt⟩ := Kd.R_slice Ai.out; subst Dt; obtain ⟨Es, Di, Du⟩ := Kd.R_slice Ah.out; subst Du) | (go_at_call 11; (with_reducible refine (impl_DepthLeft.calls Bj _ _ Ba Ad Ag Ak _ _ Ac Bd Ap Bl _ ?side1 ?side2 ?side3 ?side4 Gg.out).mono ?_); (case side1 => refine (Kd.R_reads' (e := 53) (base := w.heap.size) (ok := fun k_ => True) (n := Ba.length) (c := Di) ?_).2.2; exact (by (with_reducible repeat (first | apply Kd.R_alloc | apply Kd.R_drewN | apply Kd.R_drew)); exact (Kd.R_mono (Kd.R_far (p := ⟨Ab, 3, none⟩) (Kd.R_far (p := ⟨Ab, 2, none⟩) (Kd.R_far (p := ⟨Ab, 1, none⟩) (Kd.R_far (p := ⟨Ab, 0, none⟩) (Kd.R_types Ah.out Aa.out (by decide)) (fun _ hk => hk.2) (.int .i64 Ad)) (fun _ hk => hk.2) (.int .i64 Ag)) (fun _ hk => hk.2) (.int .i64 Ak)) (fun _ hk => hk.2) (.slice Bk Ac.length Bg)) (fun _ h_ => h_.1)))); (case side2 => exact (Kd.R_reads' Ah.out).2.1); (case side3 => refine (Kd.R_reads' (e := 3) (base := w.heap.size) (ok := fun k_ => True) (n := Ac.length) (c := Bg) ?_).2.2; exact (by (with_reducible repeat (first | apply Kd.R_alloc | apply Kd.R_drewN | apply Kd.R_drew)); exact (Kd.R_mono (Kd.R_far (p := ⟨Ab, 3, none⟩) (Kd.R_far (p := ⟨Ab, 2, none⟩) (Kd.R_far (p := ⟨Ab, 1, none⟩) (Kd.R_far (p := ⟨Ab, 0, none⟩) (Kd.R_types Ai.out Aa.out (by decide)) (fun _ hk => hk.2) (.int .i64 Ad)) (fun _ hk => hk.2) (.int .i64 Ag)) (fun _ hk => hk.2) (.int .i64 Ak)) (fun _ hk => hk.2) (.slice Bk Ac.length Bg)) (fun _ h_ => h_.1)))); (case side4 => exact (Kd.R_reads' Ai.out).2.1); rintro e G6 ⟨rfl, hb⟩; replace Ah := aM (Kd.R_below (by (with_reducible repeat (first | apply Kd.R_alloc | apply Kd.R_drewN | apply Kd.R_drew)); exact (Kd.R_mono (Kd.R_far (p := ⟨Ab, 3, none⟩) (Kd.R_far (p := ⟨Ab, 2, none⟩) (Kd.R_far (p := ⟨Ab, 1, none⟩) (Kd.R_far (p := ⟨Ab, 0, none⟩) (Kd.R_types Ah.out Aa.out (by decide)) (fun _ hk => hk.2) (.int .i64 Ad)) (fun _ hk => hk.2) (.int .i64 Ag)) (fun _ hk => hk.2) (.int .i64 Ak)) (fun _ hk => hk.2) (.slice Bk Ac.length Bg)) (fun _ h_ => h_.1))) hb); replace Ai := aM (Kd.R_below (by (with_reducible repeat (first | apply Kd.R_alloc | apply Kd.R_drewN | apply Kd.R_drew)); exact (Kd.R_mono (Kd.R_far (p := ⟨Ab, 3, none⟩) (Kd.R_far (p := ⟨Ab, 2, none⟩) (Kd.R_far (p := ⟨Ab, 1, none⟩) (Kd.R_far (p := ⟨Ab, 0, none⟩) (Kd.R_types Ai.out Aa.out (by decide)) (fun _ hk => hk.2) (.int .i64 Ad)) (fun _ hk => hk.2) (.int .i64 Ag)) (fun _ hk => hk.2) (.int .i64 Ak)) (fun _ hk => hk.2) (.slice Bk Ac.length Bg)) (fun _ h_ => h_.1))) hb); replace Aa := aM (blk_below (g := Ab) (o := .cells #[.int .i64 Ad, .int .i64 Ag, .int .i64 Ak, .slice Bk Ac.length Bg] 33 (0, 0)) Z23 hb); replace HB := hbS Z16 hb; (try clear hb); obtain ⟨Ca, Cb, Cc, Cd⟩ := bz4 Aa; obtain ⟨Ce, Cf, Cg, Ch⟩ := fz4 Aa) | (go_at_call 12; (with_reducible refine (spec_DepthLeft.calls Bj _ _ Ba Ad Ag Ak _ _ Ac Bd Cv Co _ ?side1 ?side2 ?side3 ?side4 Gh.out).mono ?_); (case side1 => exact Z87); (case side2 => exact (Kd.R_reads' Ah.out).2.1); (case side3 => exact Z88); (case side4 => exact (Kd.R_reads' Ai.out).2.1); rintro e G7 ⟨rfl, hb⟩; replace Ah := roB Ah hb; replace Ai := roB Ai hb; replace Aa := bkB Aa hb; replace HB := hbS Z16 hb; (try clear hb))); go_upto_region 16 with (first | (go_at_call 10; (with_reducible refine (spec_DrawDepthLeft.calls Bj _ _ l0 Ba Ad Ag Ak Ac Bd _ ?side1 ?side2 Gf.out).mono ?_); (case side1 => exact Z62); (case side2 => exact Dd.out); rintro e G4 ⟨Fs, Ft, rfl, An, C4, hb⟩; have Ah := aM (Kd.R_lower An (below_size Z0)); have Ai := aM (Kd.R_lower C4 (below_size Z0)); replace HB := hbS Z0 hb; (try clear hb); (try clear An); (try clear C4)) | ((with_reducible refine gate_dst (N := 15) rfl ?_); (try (refine gate_guard (by rfl) ?_; dsimp only)); refine bxE 15 #[.int .i64 0, .int .i64 0, .int .i64 0, .slice none 0 0] 33 ?_; intro Ab hg G5 hbox hb; replace Ah := roB Ah hb; replace Ai := roB Ai hb; have Aa := aM (hbox); have Em := gwS hg Z0; have Aw := gwS hg Z0; replace HB := hbS Z0 hb; clear hb hbox hg; obtain ⟨Bx, Bz, B0, B1⟩ := bz4 Aa; obtain ⟨B2, B3, B6, B8⟩ := fz4 Aa; obtain ⟨Bk, Bg, Dt⟩ := Kd.R_slice Ai.out; subst Dt; obtain ⟨Es, Di, Du⟩ := Kd.R_slice Ah.out; subst Du) | (go_at_call 11; (with_reducible refine (impl_DepthLeft.calls Bj _ _ Ba Ad Ag Ak _ _ Ac Bd Ap Bl _ ?side1 ?side2 ?side3 ?side4 Gg.out).mono ?_); (case side1 => refine (Kd.R_reads' (e := 53) (base := w.heap.size) (ok := fun k_ => True) (n := Ba.length) (c := Di) ?_).2.2; exact (by (with_reducible repeat (first | apply Kd.R_alloc | apply Kd.R_drewN | apply Kd.R_drew)); exact (Kd.R_mono (Kd.R_far (p := ⟨Ab, 3, none⟩) (Kd.R_far (p := ⟨Ab, 2, none⟩) (Kd.R_far (p := ⟨Ab, 1, none⟩) (Kd.R_far (p := ⟨Ab, 0, none⟩) (Kd.R_types Ah.out Aa.out (by decide)) (fun _ hk => hk.2) (.int .i64 Ad)) (fun _ hk => hk.2) (.int .i64 Ag)) (fun _ hk => hk.2) (.int .i64 Ak)) (fun _ hk => hk.2) (.slice Bk Ac.length Bg)) (fun _ h_ => h_.1)))); (case side2 => exact (Kd.R_reads' Ah.out).2.1); (case side3 => refine (Kd.R_reads' (e := 3) (base := w.heap.size) (ok := fun k_ => True) (n := Ac.length) (c := Bg) ?_).2.2; exact (by (with_reducible repeat (first | apply Kd.R_alloc | apply Kd.R_drewN | apply Kd.R_drew)); exact (Kd.R_mono (Kd.R_far (p := ⟨Ab, 3, none⟩) (Kd.R_far (p := ⟨Ab, 2, none⟩) (Kd.R_far (p := ⟨Ab, 1, none⟩) (Kd.R_far (p := ⟨Ab, 0, none⟩) (Kd.R_types Ai.out Aa.out (by decide)) (fun _ hk => hk.2) (.int .i64 Ad)) (fun _ hk => hk.2) (.int .i64 Ag)) (fun _ hk => hk.2) (.int .i64 Ak)) (fun _ hk => hk.2) (.slice Bk Ac.length Bg)) (fun _ h_ => h_.1)))); (case side4 => exact (Kd.R_reads' Ai.out).2.1); rintro e G6 ⟨rfl, hb⟩; replace Ah := aM (Kd.R_below (by (with_reducible repeat (first | apply Kd.R_alloc | apply Kd.R_drewN | apply Kd.R_drew)); exact (Kd.R_mono (Kd.R_far (p := ⟨Ab, 3, none⟩) (Kd.R_far (p := ⟨Ab, 2, none⟩) (Kd.R_far (p := ⟨Ab, 1, none⟩) (Kd.R_far (p := ⟨Ab, 0, none⟩) (Kd.R_types Ah.out Aa.out (by decide)) (fun _ hk => hk.2) (.int .i64 Ad)) (fun _ hk => hk.2) (.int .i64 Ag)) (fun _ hk => hk.2) (.int .i64 Ak)) (fun _ hk => hk.2) (.slice Bk Ac.length Bg)) (fun _ h_ => h_.1))) hb); replace Ai := aM (Kd.R_below (by (with_reducible repeat (first | apply Kd.R_alloc | apply Kd.R_drewN | apply Kd.R_drew)); exact (Kd.R_mono (Kd.R_far (p := ⟨Ab, 3, none⟩) (Kd.R_far (p := ⟨Ab, 2, none⟩) (Kd.R_far (p := ⟨Ab, 1, none⟩) (Kd.R_far (p := ⟨Ab, 0, none⟩) (Kd.R_types Ai.out Aa.out (by decide)) (fun _ hk => hk.2) (.int .i64 Ad)) (fun _ hk => hk.2) (.int .i64 Ag)) (fun _ hk => hk.2) (.int .i64 Ak)) (fun _ hk => hk.2) (.slice Bk Ac.length Bg)) (fun _ h_ => h_.1))) hb); replace Aa := aM (blk_below (g := Ab) (o := .cells #[.int .i64 Ad, .int .i64 Ag, .int .i64 Ak, .slice Bk Ac.length Bg] 33 (0, 0)) Z23 hb); replace HB := hbS Z16 hb; (try clear hb); obtain ⟨Ca, Cb, Cc, Cd⟩ := bz4 Aa; obtain ⟨Ce, Cf, Cg, Ch⟩ := fz4 Aa) | (go_at_call 12; (with_reducible refine (spec_DepthLeft.calls Bj _ _ Ba Ad Ag Ak _ _ Ac Bd Cv Co _ ?side1 ?side2 ?side3 ?side4 Gh.out).mono ?_); (case side1 => exact Z87); (case side2 => exact (Kd.R_reads' Ah.out).2.1); (case side3 => exact Z88); (case side4 => exact (Kd.R_reads' Ai.out).2.1); rintro e G7 ⟨rfl, hb⟩; replace Ah := roB Ah hb; replace Ai := roB Ai hb; replace Aa := bkB Aa hb; replace HB := hbS Z16 hb; (try clear hb))))
       (try simp only [Act.put, List.setIfInBounds_toArray, List.set_cons_zero, List.set_cons_succ])
       go_cut [133] (fun Gi wc => ∃ (kq : Nat) (Cq : Bool), Gi = .bool Cq ∧ Aside0 (laws_FnRecipes.j2 kq l0 Ba Bd Ap Bl Cq Ad Ag Ak Ac = some r) ∧ Aside0 (kq ≤ Bj) ∧ Aside0 (Kd.R k53 53 wc w.heap.size (fun _ => True) (.slice Es Ba.length Di) Ba) ∧ Aside0 (Kd.R (Kd.int .i64) 3 wc w.heap.size (fun _ => True) (.slice Bk Ac.length Bg) Ac) ∧ Aside0 (wc.heap[Ab]? = some (.cells #[.int .i64 Ad, .int .i64 Ag, .int .i64 Ak, (.slice Bk Ac.length Bg)] 33 (0, 0))) ∧ Aside0 (Below w.heap.size w wc))
       case first => as_aux_lemma =>
        have H := Er.out; clear Er
        by_cases Dv : Ap = Cv
        ·rw [if_pos Dv] at H
         have c48b0 : (Ap == Cv) = true := beq_iff_eq.mpr Dv; have c48b1 : (Ap != Cv) = false := bne_eq_false_iff_eq.mpr Dv; clear Dv
         (first | rw [c48b0] | (simp only [i64_w, i32_w]; rw [c48b0]) | skip)
         by_cases Df : (Bl != Co) = true
         ·rw [if_pos Df] at H
          have c49b0 : (Bl != Co) = true := Df
          (try (have c49b1 : decide (Bl = Co) = false := Z141))
          (try (have c49b2 : (Bl == Co) = false := Z141))
          (try (have c49b3 : ¬ (Bl = Co) := Z141))
          clear Df; have H' := Aside0.mk H; clear H
          go_wp2
          repeat (go_quiet (fail); try go_wp2)
          go_meet
          case rel => exact ⟨_, (true), Z12, H', ⟨Z117⟩, ⟨Z45⟩, ⟨Z50⟩, ⟨Z38⟩, ⟨Z16⟩⟩
         ·rw [if_neg Df] at H
          have c49b0 : (Bl != Co) = false := by simpa using Df
          (try (have c49b1 : decide (Bl = Co) = true := Z141))
          (try (have c49b2 : (Bl == Co) = true := Z141))
          clear Df
          by_cases Dz : Ap < 0
          ·rw [if_pos Dz] at H
           have c50b0 : decide (Ap < 0) = true := decide_eq_true Dz; clear Dz; have H' := Aside0.mk H; clear H
           go_wp2
           repeat (go_quiet (fail); try go_wp2)
           go_meet
           case rel => exact ⟨_, (true), Z12, H', ⟨Z117⟩, ⟨Z45⟩, ⟨Z50⟩, ⟨Z38⟩, ⟨Z16⟩⟩
          ·rw [if_neg Dz] at H
           have c50b0 : decide (Ap < 0) = false := decide_eq_false Dz; clear Dz; have H' := Aside0.mk H; clear H
           go_wp2
           repeat (go_quiet (fail); try go_wp2)
           go_meet
           case rel => exact ⟨_, (decide (Ap > 100)), Z12, H', ⟨Z117⟩, ⟨Z45⟩, ⟨Z50⟩, ⟨Z38⟩, ⟨Z16⟩⟩
        ·rw [if_neg Dv] at H
         have c48b0 : (Ap == Cv) = false := beq_eq_false_iff_ne.mpr Dv; have c48b1 : (Ap != Cv) = true := bne_iff_ne.mpr Dv
         (first | rw [c48b0] | (simp only [i64_w, i32_w]; rw [c48b0]) | skip)
         have H' := Aside0.mk H; clear H
         go_wp2
         repeat (go_quiet (fail); try go_wp2)
         go_meet
         case rel => exact ⟨_, (true), Z12, H', ⟨Z117⟩, ⟨Z45⟩, ⟨Z50⟩, ⟨Z38⟩, ⟨Z16⟩⟩
       case rest =>
        clear Er; (try clear c1); (try clear c2); (try clear p2); (try clear c3); (try clear c4); (try clear c5); (try clear p6); (try clear C5); (try clear c13b0); (try clear c13b1); (try clear c13b2); (try clear D1); (try clear D2); (try clear D3); (try clear D4); (try clear D5); (try clear D6); (try clear D7); (try clear Dv); (try clear c48b0); (try clear c48b1); (try clear Df); (try clear c49b0); (try clear c49b1); (try clear c49b2); (try clear Dz); (try clear c50b0); (try clear Bx); (try clear Bz); (try clear B0); (try clear B1); (try clear Ca); (try clear Cb); (try clear Cc); (try clear Cd); (try clear B2); (try clear B3); (try clear B6); (try clear B8); (try clear Ce); (try clear Cf); (try clear Cg); (try clear Ch); (try clear p2); (try clear p6); obtain ⟨kq, Cq, rfl, HA, HJ38, Br, Ae, Aa, HB⟩ := hcut; cases kq with
        | zero => exact absurd HA.out (by simp [laws_FnRecipes.j2])
        | succ Bw =>
         have H := HA.out; clear HA
         simp only [laws_FnRecipes.j2] at H
         by_cases Et : Cq = true
         ·subst Et
          have H1 : (none) = some r := by rw [if_pos rfl] at H; exact H
          clear H; have H := H1; clear H1; exact absurd H (by simp)
         ·replace Et := Bool.eq_false_iff.mpr Et
          subst Et
          have H1 : (if Bl = true then ((impl_NeedsFor.f Bw Ba Bd).bind fun Cj => (if Cj.2 = true then (laws_FnRecipes.j3 Bw l0 Ap Cj.1 ((Cj.1.length : Int) != (Ac.length : Int)) Ad Ag Ak Ac) else (laws_FnRecipes.j3 Bw l0 Ap Cj.1 true Ad Ag Ak Ac))) else (laws_FnRecipes.j5 Bw l0)) = some r := by rw [if_neg (show ¬ (false = true) by decide)] at H; exact H
          clear H; have H := H1; clear H1; have Eu := Aside0.mk H; clear H
          go_upto_if 134 with (fail)
          repeat (go_quiet (fail); go_upto_if 134 with (fail))
          go_cut [] (fun wc => ∃ (kq : Nat), Aside0 (laws_FnRecipes.j5 kq l0 = some r) ∧ Aside0 (kq ≤ Bw) ∧ Aside0 (Below w.heap.size w wc))
          case first => as_aux_lemma =>
           have H := Eu.out; clear Eu
           by_cases Ew : Bl = true
           ·subst Ew
            have H1 : ((impl_NeedsFor.f Bw Ba Bd).bind fun Cj => (if Cj.2 = true then (laws_FnRecipes.j3 Bw l0 Ap Cj.1 ((Cj.1.length : Int) != (Ac.length : Int)) Ad Ag Ak Ac) else (laws_FnRecipes.j3 Bw l0 Ap Cj.1 true Ad Ag Ak Ac))) = some r := by rw [if_pos rfl] at H; exact H
            clear H; have H := H1; clear H1; replace H := Option.bind_eq_some_iff.mp H; obtain ⟨⟨Bp, Dw⟩, Fu, H⟩ := H; replace H : (if Dw = true then (laws_FnRecipes.j3 Bw l0 Ap Bp ((Bp.length : Int) != (Ac.length : Int)) Ad Ag Ak Ac) else (laws_FnRecipes.j3 Bw l0 Ap Bp true Ad Ag Ak Ac)) = some r := H; have Gj := Aside0.mk Fu; clear Fu; have Ex := Aside0.mk H; clear H
            go_upto_region 20 with (first | (go_at_call 13; (with_reducible refine (impl_NeedsFor.calls Bw _ _ Ba Bd Bp Dw _ ?side1 ?side2 Gj.out).mono ?_); (case side1 => exact Z80); (case side2 => exact (Kd.R_reads' Br.out).2.1); rintro e G8 ⟨Dj, rfl, An, hb⟩; replace Br := roB Br hb; have C8 := aM (Kd.R_lower (Kd.R_new' An (Kd.R_lt Z28)) (below_size Z16)); replace Ae := aM (Kd.R_elder' Z28 (Kd.R_base An) hb); replace Aa := bkB Aa hb; replace HB := hbS Z16 hb; (try clear hb); (try clear An)))
            repeat (go_quiet (first | (go_at_call 13; (with_reducible refine (impl_NeedsFor.calls Bw _ _ Ba Bd Bp Dw _ ?side1 ?side2 Gj.out).mono ?_); (case side1 => exact Z80); (case side2 => exact (Kd.R_reads' Br.out).2.1); rintro e G8 ⟨Dj, rfl, An, hb⟩; replace Br := roB Br hb; have C8 := aM (Kd.R_lower (Kd.R_new' An (Kd.R_lt Z28)) (below_size Z16)); replace Ae := aM (Kd.R_elder' Z28 (Kd.R_base An) hb); replace Aa := bkB Aa hb; replace HB := hbS Z16 hb; (try clear hb); (try clear An))); go_upto_region 20 with (first | (go_at_call 13; (with_reducible refine (impl_NeedsFor.calls Bw _ _ Ba Bd Bp Dw _ ?side1 ?side2 Gj.out).mono ?_); (case side1 => exact Z80); (case side2 => exact (Kd.R_reads' Br.out).2.1); rintro e G8 ⟨Dj, rfl, An, hb⟩; replace Br := roB Br hb; have C8 := aM (Kd.R_lower (Kd.R_new' An (Kd.R_lt Z28)) (below_size Z16)); replace Ae := aM (Kd.R_elder' Z28 (Kd.R_base An) hb); replace Aa := bkB Aa hb; replace HB := hbS Z16 hb; (try clear hb); (try clear An))))
            (try simp only [Act.put, List.setIfInBounds_toArray, List.set_cons_zero, List.set_cons_succ])
            go_cut [150] (fun Gk wc => ∃ (kq : Nat) (Cr : Bool), Gk = .bool Cr ∧ Aside0 (laws_FnRecipes.j3 kq l0 Ap Bp Cr Ad Ag Ak Ac = some r) ∧ Aside0 (kq ≤ Bw) ∧ Aside0 (Kd.R (Kd.int .i64) 3 wc w.heap.size (fun k_ => nS k_ Bk Ac.length Bg) Dj Bp) ∧ Aside0 (Kd.R (Kd.int .i64) 3 wc w.heap.size (fun k_ => nV k_ Dj) (.slice Bk Ac.length Bg) Ac) ∧ Aside0 (wc.heap[Ab]? = some (.cells #[.int .i64 Ad, .int .i64 Ag, .int .i64 Ak, (.slice Bk Ac.length Bg)] 33 (0, 0))) ∧ Aside0 (Below w.heap.size w wc))
            case first => as_aux_lemma =>
             have H := Ex.out; clear Ex
             by_cases Ey : Dw = true
             ·subst Ey
              have H1 : (laws_FnRecipes.j3 Bw l0 Ap Bp ((Bp.length : Int) != (Ac.length : Int)) Ad Ag Ak Ac) = some r := by rw [if_pos rfl] at H; exact H
              clear H; have H := H1; clear H1; have H' := Aside0.mk H; clear H; obtain ⟨Hi, Hj, Gl⟩ := Kd.R_slice C8.out; subst Gl; obtain ⟨Cw, Cx, Cy, Cz⟩ := bz4 Aa; obtain ⟨C0, C1, C2, C3⟩ := fz4 Aa
              go_wp2
              repeat (go_quiet (fail); try go_wp2)
              go_meet
              case rel => exact ⟨_, (((Bp.length : Int) != (Ac.length : Int))), Z12, H', ⟨Z119⟩, ⟨Z121⟩, ⟨Z94⟩, ⟨Z38⟩, ⟨Z16⟩⟩
             ·replace Ey := Bool.eq_false_iff.mpr Ey
              subst Ey
              have H1 : (laws_FnRecipes.j3 Bw l0 Ap Bp true Ad Ag Ak Ac) = some r := by rw [if_neg (show ¬ (false = true) by decide)] at H; exact H
              clear H; have H := H1; clear H1; have H' := Aside0.mk H; clear H
              go_wp2
              repeat (go_quiet (fail); try go_wp2)
              go_meet
              case rel => exact ⟨_, (true), Z12, H', ⟨Z119⟩, ⟨Z121⟩, ⟨Z94⟩, ⟨Z38⟩, ⟨Z16⟩⟩
            case rest =>
             clear Ex; (try clear c1); (try clear c2); (try clear p2); (try clear c3); (try clear c4); (try clear c5); (try clear p6); (try clear C5); (try clear c13b0); (try clear c13b1); (try clear c13b2); (try clear D1); (try clear D2); (try clear D3); (try clear D4); (try clear D5); (try clear D6); (try clear D7); (try clear Dv); (try clear c48b0); (try clear c48b1); (try clear Df); (try clear c49b0); (try clear c49b1); (try clear c49b2); (try clear Dz); (try clear c50b0); (try clear Et); (try clear Ew); (try clear Ey); (try clear Bx); (try clear Bz); (try clear B0); (try clear B1); (try clear Ca); (try clear Cb); (try clear Cc); (try clear Cd); (try clear Cw); (try clear Cx); (try clear Cy); (try clear Cz); (try clear B2); (try clear B3); (try clear B6); (try clear B8); (try clear Ce); (try clear Cf); (try clear Cg); (try clear Ch); (try clear C0); (try clear C1); (try clear C2); (try clear C3); (try clear p2); (try clear p6); obtain ⟨kq, Cr, rfl, HA, HJ54, Cl, Ae, Aa, HB⟩ := hcut; cases kq with
             | zero => exact absurd HA.out (by simp [laws_FnRecipes.j3])
             | succ Ez =>
              have H := HA.out; clear HA
              simp only [laws_FnRecipes.j3] at H
              by_cases E2 : Cr = true
              ·subst E2
               have H1 : (none) = some r := by rw [if_pos rfl] at H; exact H
               clear H; have H := H1; clear H1; exact absurd H (by simp)
              ·replace E2 := Bool.eq_false_iff.mpr E2
               subst E2
               have H1 : (laws_FnRecipes.l0 Ez l0 Ap Bp 0 Ad Ag Ak Ac) = some r := by rw [if_neg (show ¬ (false = true) by decide)] at H; exact H
               clear H; have H := H1; clear H1; have H' := Aside0.mk H; clear H
               go_wp2
               repeat (go_quiet (fail); try go_wp2)
               go_loopg [23] Ez (fun kq Hk w' => ∃ (Bb : Int), Hk = .int .i64 Bb ∧ Aside0 (laws_FnRecipes.l0 kq l0 Ap Bp Bb Ad Ag Ak Ac = some r) ∧ Aside0 (kq ≤ Ez) ∧ Aside0 (Kd.R (Kd.int .i64) 3 w' w.heap.size (fun k_ => nS k_ Bk Ac.length Bg) Dj Bp) ∧ Aside0 (Kd.R (Kd.int .i64) 3 w' w.heap.size (fun k_ => nV k_ Dj) (.slice Bk Ac.length Bg) Ac) ∧ Aside0 (w'.heap[Ab]? = some (.cells #[.int .i64 Ad, .int .i64 Ag, .int .i64 Ak, (.slice Bk Ac.length Bg)] 33 (0, 0))) ∧ Aside0 (Below w.heap.size w w'))
               case atStart => exact ⟨(0), Z12, H', ⟨Nat.le_refl _⟩, ⟨Z112⟩, ⟨Z28⟩, ⟨Z38⟩, ⟨Z16⟩⟩
               case round =>
                clear H'; (try clear c1); (try clear c2); (try clear p2); (try clear c3); (try clear c4); (try clear c5); (try clear c6); (try clear p6); (try clear C5); (try clear c13b0); (try clear c13b1); (try clear c13b2); (try clear D1); (try clear D2); (try clear D3); (try clear D4); (try clear D5); (try clear D6); (try clear D7); (try clear Dv); (try clear c48b0); (try clear c48b1); (try clear Df); (try clear c49b0); (try clear c49b1); (try clear c49b2); (try clear Dz); (try clear c50b0); (try clear Et); (try clear Ew); (try clear Ey); (try clear E2); (try clear Bx); (try clear Bz); (try clear B0); (try clear B1); (try clear Ca); (try clear Cb); (try clear Cc); (try clear Cd); (try clear Cw); (try clear Cx); (try clear Cy); (try clear Cz); (try clear B2); (try clear B3); (try clear B6); (try clear B8); (try clear Ce); (try clear Cf); (try clear Cg); (try clear Ch); (try clear C0); (try clear C1); (try clear C2); (try clear C3); (try clear p2); (try clear p6); obtain ⟨Bb, rfl, HA, HK5, Cl, Ae, Aa, HB⟩ := hrel; cases gk with
                | zero => exact absurd HA.out (by simp [laws_FnRecipes.l0])
                | succ k5 =>
                 have H := HA.out; clear HA
                 simp only [laws_FnRecipes.l0] at H
                 by_cases E0 : Bb < (Bp.length : Int)
                 ·rw [if_pos E0] at H
                  have c61b0 : decide (Bb < (Bp.length : Int)) = true := decide_eq_true E0; clear E0
                  by_cases En : Ap = 100
                  ·rw [if_pos En] at H
                   have c62b0 : (Ap == 100) = true := beq_iff_eq.mpr En; have c62b1 : (Ap != 100) = false := bne_eq_false_iff_eq.mpr En; clear En
                   by_cases Fv : 0 ≤ Bb
                   ·rw [if_pos Fv] at H
                    have c63b0 : decide (0 ≤ Bb) = true := decide_eq_true Fv; clear Fv
                    by_cases Fw : Bb < (Ac.length : Int)
                    ·rw [if_pos Fw] at H
                     have c64b0 : decide (Bb < (Ac.length : Int)) = true := decide_eq_true Fw; clear Fw
                     by_cases Fx : (rd Ac Bb) < (rd Bp Bb)
                     ·rw [if_pos Fx] at H
                      exact absurd H (by simp)
                     ·rw [if_neg Fx] at H
                      have c65b0 : decide ((rd Ac Bb) < (rd Bp Bb)) = false := decide_eq_false Fx; clear Fx; have H' := Aside0.mk H; clear H; obtain ⟨Hl, Hm, Gm⟩ := Kd.R_slice Cl.out; subst Gm; obtain ⟨D8, D9, Ea, Eb⟩ := bz4 Aa; obtain ⟨Ec, Ed, Ee, Ef⟩ := fz4 Aa; have Eg : 0 ≤ (Bb : Int) := of_decide_eq_true Z6; have Eh : Bb < (Ac.length : Int) := of_decide_eq_true Z6; obtain ⟨ad492, e492, Ei⟩ := Kd.at_int (Kd.R_reads' Ae.out).2.2 Bb Eg Eh; cases e492; replace Eg := eq_true Eg; replace Eh := eq_true Eh; have Ej : 0 ≤ (Bb : Int) := of_decide_eq_true Z6; have Ek : Bb < (Bp.length : Int) := of_decide_eq_true Z6; obtain ⟨ad493, e493, El⟩ := Kd.at_int (Kd.R_reads' Cl.out).2.2 Bb Ej Ek; cases e493; replace Ej := eq_true Ej; replace Ek := eq_true Ek
                      go_wp2
                      repeat (go_quiet (fail); try go_wp2)
                      go_roundg k5
                      case measure => have := HJ6.out; have := HJ17.out; have := HJ38.out; have := HJ54.out; have := HK5.out; omega
                      case rel => exact ⟨(wrap64 (Bb + 1)), Z12, H', ⟨Z128⟩, ⟨Z112⟩, ⟨Z28⟩, ⟨Z38⟩, ⟨Z16⟩⟩
                    ·rw [if_neg Fw] at H
                     exact absurd H (by simp)
                   ·rw [if_neg Fv] at H
                    exact absurd H (by simp)
                  ·rw [if_neg En] at H
                   have c62b0 : (Ap == 100) = false := beq_eq_false_iff_ne.mpr En; have c62b1 : (Ap != 100) = true := bne_iff_ne.mpr En; have H' := Aside0.mk H; clear H; obtain ⟨Hn, Ho, Gn⟩ := Kd.R_slice Cl.out; subst Gn
                   go_wp2
                   repeat (go_quiet (fail); try go_wp2)
                   go_roundg k5
                   case measure => have := HJ6.out; have := HJ17.out; have := HJ38.out; have := HJ54.out; have := HK5.out; omega
                   case rel => exact ⟨(wrap64 (Bb + 1)), Z12, H', ⟨Z128⟩, ⟨Z112⟩, ⟨Z28⟩, ⟨Z38⟩, ⟨Z16⟩⟩
                 ·rw [if_neg E0] at H
                  have c61b0 : decide (Bb < (Bp.length : Int)) = false := decide_eq_false E0; clear E0; have H' := Aside0.mk H; clear H; obtain ⟨Hp, Hq, Gp⟩ := Kd.R_slice Cl.out; subst Gp
                  go_wp2
                  repeat (go_quiet (fail); try go_wp2)
                  go_meet
                  case rel => exact ⟨_, H', ⟨by have := HJ6.out; have := HJ17.out; have := HJ38.out; have := HJ54.out; have := HK5.out; first | omega | exact Nat.le_refl _⟩, ⟨Z16⟩⟩
           ·replace Ew := Bool.eq_false_iff.mpr Ew
            subst Ew
            have H1 : (laws_FnRecipes.j5 Bw l0) = some r := by rw [if_neg (show ¬ (false = true) by decide)] at H; exact H
            clear H; have H := H1; clear H1; have H' := Aside0.mk H; clear H
            go_wp2
            repeat (go_quiet (fail); try go_wp2)
            go_meet
            case rel => exact ⟨_, H', ⟨Z119⟩, ⟨Z16⟩⟩
          case rest =>
           clear Eu; (try clear c1); (try clear c2); (try clear p2); (try clear c3); (try clear c4); (try clear p4); (try clear q4); (try clear Hs); (try clear c5); (try clear c6); (try clear p6); (try clear C5); (try clear c13b0); (try clear c13b1); (try clear c13b2); (try clear D1); (try clear D2); (try clear D3); (try clear D4); (try clear D5); (try clear D6); (try clear D7); (try clear Dv); (try clear c48b0); (try clear c48b1); (try clear Df); (try clear c49b0); (try clear c49b1); (try clear c49b2); (try clear Ht); (try clear Hu); (try clear Hr); (try clear Dz); (try clear c50b0); (try clear Et); (try clear Ew); (try clear Ey); (try clear E2); (try clear E0); (try clear c61b0); (try clear En); (try clear c62b0); (try clear c62b1); (try clear Fv); (try clear c63b0); (try clear Fw); (try clear c64b0); (try clear Hv); (try clear Fx); (try clear c65b0); (try clear Bx); (try clear Bz); (try clear B0); (try clear B1); (try clear Ca); (try clear Cb); (try clear Cc); (try clear Cd); (try clear Cw); (try clear Cx); (try clear Cy); (try clear Cz); (try clear D8); (try clear D9); (try clear Ea); (try clear Eb); (try clear B2); (try clear B3); (try clear B6); (try clear B8); (try clear Ce); (try clear Cf); (try clear Cg); (try clear Ch); (try clear C0); (try clear C1); (try clear C2); (try clear C3); (try clear Ec); (try clear Ed); (try clear Ee); (try clear Ef); (try clear Ei); (try clear El); (try clear p2); (try clear Eg); (try clear Ej); (try clear p6); (try clear Eh); (try clear Ek); obtain ⟨kq, HA, HJ51, HB⟩ := hcut; cases kq with
           | zero => exact absurd HA.out (by simp [laws_FnRecipes.j5])
           | succ Bt =>
            have H := HA.out; clear HA
            simp only [laws_FnRecipes.j5] at H
            replace H := Option.bind_eq_some_iff.mp H; obtain ⟨Bu, Fy, H⟩ := H; replace H : ((impl_RecipeText.f Bt Bu).bind fun Dx => ((spec_RecipeText.f Bt Bu).bind fun C9 => (if Dx.1.toList = C9.1.toList then (if (Dx.2 == C9.2) = true then ((impl_IsRecipe.f Bt Bu).bind fun Ct => (some (Dx.2 == Ct))) else (none)) else (none)))) = some r := H; have Gq := Aside0.mk Fy; clear Fy; replace H := Option.bind_eq_some_iff.mp H; obtain ⟨⟨Da, Cp⟩, Fz, H⟩ := H; replace H : ((spec_RecipeText.f Bt Bu).bind fun C9 => (if Da.toList = C9.1.toList then (if (Cp == C9.2) = true then ((impl_IsRecipe.f Bt Bu).bind fun Ct => (some (Cp == Ct))) else (none)) else (none))) = some r := H; have Gr := Aside0.mk Fz; clear Fz; replace H := Option.bind_eq_some_iff.mp H; obtain ⟨⟨Dg, Db⟩, F1, H⟩ := H; replace H : (if Da.toList = Dg.toList then (if (Cp == Db) = true then ((impl_IsRecipe.f Bt Bu).bind fun Ct => (some (Cp == Ct))) else (none)) else (none)) = some r := H; have Gs := Aside0.mk F1; clear F1
            by_cases F2 : Da.toList = Dg.toList
            ·rw [if_pos F2] at H
             have c73b0 : (Da.toList == Dg.toList) = true := beq_iff_eq.mpr F2; have c73b1 : (Da.toList != Dg.toList) = false := bne_eq_false_iff_eq.mpr F2; clear F2
             by_cases E3 : (Cp == Db) = true
             ·rw [if_pos E3] at H
              have c74b0 : (Cp == Db) = true := E3
              (try (have c74b1 : decide (Cp = Db) = true := by simpa using E3))
              (try (have c74b2 : (Cp == Db) = true := by simpa using E3))
              clear E3; replace H := Option.bind_eq_some_iff.mp H; obtain ⟨Ct, F3, H⟩ := H; replace H : (some (Cp == Ct)) = some r := H; have Gt := Aside0.mk F3; clear F3; obtain rfl := Option.some.inj H
              go_wp2_with (first | (go_at_call 14; (with_reducible refine (spec_DrawRecipeText.calls Bt _ _ l0 Bu _ ?side1 ?side2 Gq.out).mono ?_); (case side1 => exact Z62); (case side2 => exact Dd.out); rintro e G9 ⟨F4, rfl, An, hb⟩; have Af := aM (Kd.R_lower An (below_size Z0)); replace HB := hbS Z0 hb; (try clear hb); (try clear An); obtain ⟨F5, F6, Dy⟩ := Kd.R_slice Af.out; subst Dy) | (go_at_call 15; (with_reducible refine (impl_RecipeText.calls Bt _ _ Bu Da Cp _ ?side1 ?side2 Gr.out ?sideT).mono ?_); (case sideT => exact HTAB_.out _ Z0); (case side1 => exact Z36); (case side2 => exact (Kd.R_reads' Af.out).2.1); rintro e Ha ⟨rfl, hb⟩; replace Af := roB Af hb; replace HB := hbS Z0 hb; (try clear hb)) | (go_at_call 16; (with_reducible refine (spec_RecipeText.calls Bt _ _ Bu Dg Db _ ?side1 ?side2 Gs.out).mono ?_); (case side1 => exact Z36); (case side2 => exact (Kd.R_reads' Af.out).2.1); rintro e Hb ⟨rfl, hb⟩; replace Af := roB Af hb; replace HB := hbS Z0 hb; (try clear hb)) | (go_at_call 9; (with_reducible refine (impl_IsRecipe.calls Bt _ _ Bu Ct _ ?side1 ?side2 Gt.out).mono ?_); (case side1 => exact Z36); (case side2 => exact (Kd.R_reads' Af.out).2.1); rintro e Hc ⟨rfl, hb⟩; replace Af := roB Af hb; replace HB := hbS Z0 hb; (try clear hb)))
              repeat (go_quiet (first | (go_at_call 14; (with_reducible refine (spec_DrawRecipeText.calls Bt _ _ l0 Bu _ ?side1 ?side2 Gq.out).mono ?_); (case side1 => exact Z62); (case side2 => exact Dd.out); rintro e G9 ⟨F4, rfl, An, hb⟩; have Af := aM (Kd.R_lower An (below_size Z0)); replace HB := hbS Z0 hb; (try clear hb); (try clear An); obtain ⟨F5, F6, Dy⟩ := Kd.R_slice Af.out; subst Dy) | (go_at_call 15; (with_reducible refine (impl_RecipeText.calls Bt _ _ Bu Da Cp _ ?side1 ?side2 Gr.out ?sideT).mono ?_); (case sideT => exact HTAB_.out _ Z0); (case side1 => exact Z36); (case side2 => exact (Kd.R_reads' Af.out).2.1); rintro e Ha ⟨rfl, hb⟩; replace Af := roB Af hb; replace HB := hbS Z0 hb; (try clear hb)) | (go_at_call 16; (with_reducible refine (spec_RecipeText.calls Bt _ _ Bu Dg Db _ ?side1 ?side2 Gs.out).mono ?_); (case side1 => exact Z36); (case side2 => exact (Kd.R_reads' Af.out).2.1); rintro e Hb ⟨rfl, hb⟩; replace Af := roB Af hb; replace HB := hbS Z0 hb; (try clear hb)) | (go_at_call 9; (with_reducible refine (impl_IsRecipe.calls Bt _ _ Bu Ct _ ?side1 ?side2 Gt.out).mono ?_); (case side1 => exact Z36); (case side2 => exact (Kd.R_reads' Af.out).2.1); rintro e Hc ⟨rfl, hb⟩; replace Af := roB Af hb; replace HB := hbS Z0 hb; (try clear hb))); try go_wp2_with (first | (go_at_call 14; (with_reducible refine (spec_DrawRecipeText.calls Bt _ _ l0 Bu _ ?side1 ?side2 Gq.out).mono ?_); (case side1 => exact Z62); (case side2 => exact Dd.out); rintro e G9 ⟨F4, rfl, An, hb⟩; have Af := aM (Kd.R_lower An (below_size Z0)); replace HB := hbS Z0 hb; (try clear hb); (try clear An); obtain ⟨F5, F6, Dy⟩ := Kd.R_slice Af.out; subst Dy) | (go_at_call 15; (with_reducible refine (impl_RecipeText.calls Bt _ _ Bu Da Cp _ ?side1 ?side2 Gr.out ?sideT).mono ?_); (case sideT => exact HTAB_.out _ Z0); (case side1 => exact Z36); (case side2 => exact (Kd.R_reads' Af.out).2.1); rintro e Ha ⟨rfl, hb⟩; replace Af := roB Af hb; replace HB := hbS Z0 hb; (try clear hb)) | (go_at_call 16; (with_reducible refine (spec_RecipeText.calls Bt _ _ Bu Dg Db _ ?side1 ?side2 Gs.out).mono ?_); (case side1 => exact Z36); (case side2 => exact (Kd.R_reads' Af.out).2.1); rintro e Hb ⟨rfl, hb⟩; replace Af := roB Af hb; replace HB := hbS Z0 hb; (try clear hb)) | (go_at_call 9; (with_reducible refine (impl_IsRecipe.calls Bt _ _ Bu Ct _ ?side1 ?side2 Gt.out).mono ?_); (case side1 => exact Z36); (case side2 => exact (Kd.R_reads' Af.out).2.1); rintro e Hc ⟨rfl, hb⟩; replace Af := roB Af hb; replace HB := hbS Z0 hb; (try clear hb))))
              go_ret
              exact ⟨Z11, Z0⟩
             ·rw [if_neg E3] at H
              exact absurd H (by simp)
            ·rw [if_neg F2] at H
             exact absurd H (by simp)
end Go.Proofs.YtfeighajmkcjfaaGreatDoor.H
