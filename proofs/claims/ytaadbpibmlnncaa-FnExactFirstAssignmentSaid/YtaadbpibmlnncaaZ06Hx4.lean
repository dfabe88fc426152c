-- by wip/pack.py of this repo
import Derived.Test.YtaadbpibmlnncaaZ06Hx0
import Derived.Test.YtaadbpibmlnncaaZ06Hx3
import Derived.Test.YtaadbpibmlnncaaZ06WApart
import Derived.Test.YtaadbpibmlnncaaZ06WFoot
import Derived.Test.YtaadbpibmlnncaaZ06WGuard
import Derived.Test.YtaadbpibmlnncaaZ06WKept
import Derived.Test.YtaadbpibmlnncaaZ06WLast
import Derived.Test.YtaadbpibmlnncaaZ06WMore
import Derived.Test.YtaadbpibmlnncaaZ06WTab
import Derived.Test.YtaadbpibmlnncaaZ06WWords
import Derived.Test.YtaadbpibmlnncaaZ06Short
namespace Go.Proofs.Ytaadbpibmlnncaa.H
open Go.RowKit Go.Proofs.YtaadbpibmlnncaaW.PrintWords Go.Proofs.YtaadbpibmlnncaaW.PrintLast Go.Proofs.YtaadbpibmlnncaaW.PrintMore
attribute [local go_sem] max2_int min2_int max_two min_two max_three min_three max_four min_four
set_option maxHeartbeats 8000000
set_option maxRecDepth 100000
set_option linter.unusedVariables false
set_option linter.unusedSimpArgs false
mutual
def spec_l12Fits.l0 : Nat → List Int → List Int → List Int → List Int → Int → Option (Bool)
 | 0, _, _, _, _, _ => none
 | k + 1, x0, x1, x2, x7, x8 => if x8 < (x2.length : Int) then (if 0 ≤ x8 then ((spec_l1In.f (rd x2 x8) 0 (wrap64 ((x1.length : Int) - 1))).bind fun t219 => (if t219 = true then (spec_l12Fits.j1 k x0 x1 x2 x7 x8 (rd x2 x8) (decide (x8 ≥ (x0.length : Int)))) else (spec_l12Fits.j1 k x0 x1 x2 x7 x8 (rd x2 x8) true))) else (none)) else (some true)
def spec_l12Fits.j1 : Nat → List Int → List Int → List Int → List Int → Int → Int → Bool → Option (Bool)
 | 0, _, _, _, _, _, _, _ => none
 | k + 1, x0, x1, x2, x7, x8, x9, x34 => if x34 = true then (some false) else (if 0 ≤ x9 then (if x9 < (x7.length : Int) then (if 0 ≤ x8 then (if x8 < (x0.length : Int) then ((some (x7.set (x9 : Int).toNat (wrap64 ((rd x7 x9) + (rd x0 x8))) : List Int)).bind fun y222 => (if x9 < (x1.length : Int) then (if (rd y222 x9) > (rd x1 x9) then (some false) else (spec_l12Fits.l0 k x0 x1 x2 y222 (wrap64 (x8 + 1)))) else (none))) else (none)) else (none)) else (none)) else (none))
end
def spec_l12Fits.f (k : Nat) (l0 : List Int) (l1 : List Int) (l2 : List Int) : Option (Bool) := if 0 ≤ (l1.length : Int) then (if ((l1.length : Int) : Int).toNat ≤ 35184372088832 then (spec_l12Fits.l0 k l0 l1 l2 (List.replicate ((l1.length : Int) : Int).toNat 0) 0) else (none)) else (none)
def spec_l12Fits.T8 : Bool × List (List Nat × List Nat) := (true, [([], []), ([], []), ([], []), ([], []), ([2, 3], [2, 3]), ([4], [4]), ([], []), ([], []), ([6, 7], [6, 7]), ([8], [8]), ([5, 9], [5, 9]), ([0, 1, 0, 1, 2, 3, 4, 5, 6, 7, 8, 9, 10], [0, 1]), ([11, 10, 0, 1, 2, 3, 4, 5, 6, 7, 8, 9, 10], [10, 11])])
def spec_l12Fits.B8 : List Nat := [0, 0, 0, 0, 12, 28, 0, 0, 192, 448, 1020, 2047, 4095]
theorem spec_l12Fits.tab8 : rtab .any (opsOf Try.f56 8) = spec_l12Fits.T8 := by kernel_rfl
theorem spec_l12Fits.bits8 : waitsOk spec_l12Fits.T8.2 spec_l12Fits.B8 = true := by kernel_rfl
def spec_l12Fits.T9 : Bool × List (List Nat × List Nat) := (true, [([], []), ([], []), ([0, 1], [0, 1]), ([2], [2]), ([], []), ([], []), ([4, 5], [4, 5]), ([6], [6]), ([3, 7], [3, 7])])
def spec_l12Fits.B9 : List Nat := [0, 0, 3, 7, 0, 0, 48, 112, 255]
theorem spec_l12Fits.tab9 : rtab .any (opsOf Try.f56 9) = spec_l12Fits.T9 := by kernel_rfl
theorem spec_l12Fits.bits9 : waitsOk spec_l12Fits.T9.2 spec_l12Fits.B9 = true := by kernel_rfl
theorem spec_l12Fits.calls (k : Nat) (A0 : Option Addr) (c0 : Nat) (l0 : List Int) (A1 : Option Addr) (c1 : Nat) (l1 : List Int) (A2 : Option Addr) (c2 : Nat) (l2 : List Int) (r : Bool) (w : World) (Cf : Kd.C (Kd.int .i64) w A0 l0.length l0) (Cg : l0.length ≤ c0) (Ch : Kd.C (Kd.int .i64) w A1 l1.length l1) (Ci : l1.length ≤ c1) (Cj : Kd.C (Kd.int .i64) w A2 l2.length l2) (Ck : l2.length ≤ c2) (h : spec_l12Fits.f k l0 l1 l2 = some r) :
  Calls Try.prog 56 #[.slice A0 l0.length c0, .slice A1 l1.length c1, .slice A2 l2.length c2] w fun e w' => e = .returned (.bool r) ∧ Below w.heap.size w w' := by
 have Cl := Aside0.mk Cf; have Cu := Aside0.mk Cg; clear Cf Cg; have Cm := Aside0.mk Ch; have Cv := Aside0.mk Ci; clear Ch Ci; have Co := Aside0.mk Cj; have Cw := Aside0.mk Ck; clear Cj Ck; have HB := aM (Below.refl w.heap.size w); have H : (if 0 ≤ (l1.length : Int) then (if ((l1.length : Int) : Int).toNat ≤ 35184372088832 then (spec_l12Fits.l0 k l0 l1 l2 (List.replicate ((l1.length : Int) : Int).toNat 0) 0) else (none)) else (none)) = some r := h; clear h
 by_cases c4 : 0 ≤ (l1.length : Int)
 ·rw [if_pos c4] at H
  have c4b0 := eq_true c4; have c4b1 : decide (0 ≤ (l1.length : Int)) = true := decide_eq_true c4; clear c4
  by_cases c5 : ((l1.length : Int) : Int).toNat ≤ 35184372088832
  ·rw [if_pos c5] at H
   have c5b0 := eq_true c5; have c5b1 : decide (((l1.length : Int) : Int).toNat ≤ 35184372088832) = true := decide_eq_true c5; clear c5; obtain ⟨Bp, Ak⟩ : ∃ y_ : List Int, y_ = (List.replicate ((l1.length : Int) : Int).toNat 0) := ⟨_, rfl⟩
   replace H : (spec_l12Fits.l0 k l0 l1 l2 Bp 0) = some r := by first | (rw [Ak]; with_reducible exact H) | (have H2_ := (Option.bind_some _ _).symm.trans H; rw [Ak]; with_reducible exact H2_) | (have H2_ := (Option.bind_some _ _).symm.trans H; with_reducible exact H2_) | with_reducible exact H | (rw [Ak]; exact H) | exact H
   have Bg := Aside0.mk Ak; clear Ak; have H' := Aside0.mk H; clear H
   go_enter Try.func56, Try.ntmps56
   go_wp2_with (first | ((with_reducible refine gate_dst (N := 12) rfl ?_); (try (refine gate_guard (by rfl) ?_; dsimp only)); refine Kd.R_make (Kd.int .i64) _ 3 rfl (N := 12) rfl 22 _ _ rfl (l1.length : Int) rfl rfl Try.underlying22 (.int .i64 0) 8 info3 rfl (by decide) (by omega) 0 (ok := fun _ => True) (okp := fun _ => True) rfl (fun _ hk => hk) trivial (of_decide_eq_true Z3) (Nat.le_trans (Nat.mul_le_mul_right _ (of_decide_eq_true Z3 : (l1.length : Int).toNat ≤ 35184372088832)) (by omega)) (Below.refl _ _) (Nat.le_refl _) ?_; intro Bq w6 Br hb hg_ hnew_; clear hg_ hnew_; (first | rw [← Bg.out] at Br | (simp only [Int.reduceToNat] at Br; rw [← Bg.out] at Br)); have Bs := aM (Kd.R_lower Br (below_size Z0)); replace HB := hbS Z0 hb; clear hb Br))
   go_loopg [8] k (fun kq v8 w' => ∃ (Ab : List Int) (Aa : Int), v8 = .int .i64 Aa ∧ Aside0 (spec_l12Fits.l0 kq l0 l1 l2 Ab Aa = some r) ∧ Aside0 (kq ≤ k) ∧ Aside0 (Kd.R (Kd.int .i64) 3 w' w.heap.size (fun _ => True) Bq Ab) ∧ Aside0 (Below w.heap.size w w'))
   case atStart => exact ⟨(Bp), (0), Z7, H', ⟨Nat.le_refl _⟩, ⟨Z98⟩, ⟨Z0⟩⟩
   case round =>
    clear H'; (try clear c1); (try clear c2); (try clear p2); (try clear c4); (try clear c4b0); (try clear c4b1); (try clear c5); (try clear c5b0); (try clear c5b1); obtain ⟨Ab, Aa, rfl, HA, HK1, Ac, HB⟩ := hrel; cases gk with
    | zero => exact absurd HA.out (by simp [spec_l12Fits.l0])
    | succ k1 =>
     have H := HA.out; clear HA
     simp only [spec_l12Fits.l0] at H
     by_cases c8 : Aa < (l2.length : Int)
     ·rw [if_pos c8] at H
      have c8b0 : decide (Aa < (l2.length : Int)) = true := decide_eq_true c8; clear c8
      by_cases c9 : 0 ≤ Aa
      ·rw [if_pos c9] at H
       have c9b0 : decide (0 ≤ Aa) = true := decide_eq_true c9; clear c9; have Bh := Aside0.mk H; clear H; have Bd : 0 ≤ (Aa : Int) := of_decide_eq_true Z3; have Bf : Aa < (l2.length : Int) := of_decide_eq_true Z3; obtain ⟨ad218, e218, Aj⟩ := Kd.at_int Co.out Aa Bd Bf; cases e218; replace Aj := (HB.out.cell (World.block_lt_of_cell? w _ Aj)).trans Aj; replace Bd := eq_true Bd; replace Bf := eq_true Bf
       go_upto_region 6 with (fail)
       go_cut [34] (fun Cp wc => ∃ (kq : Nat) (Az : Bool), Cp = .bool Az ∧ Aside0 (spec_l12Fits.j1 kq l0 l1 l2 Ab Aa (rd l2 Aa) Az = some r) ∧ Aside0 (kq ≤ k1) ∧ Aside0 (Kd.R (Kd.int .i64) 3 wc w.heap.size (fun _ => True) Bq Ab) ∧ Aside0 (Below w.heap.size w wc))
       case first =>
        have H := Bh.out; clear Bh; replace H := Option.bind_eq_some_iff.mp H; obtain ⟨Bt, Bu, H⟩ := H; replace H : (if Bt = true then (spec_l12Fits.j1 k1 l0 l1 l2 Ab Aa (rd l2 Aa) (decide (Aa ≥ (l0.length : Int)))) else (spec_l12Fits.j1 k1 l0 l1 l2 Ab Aa (rd l2 Aa) true)) = some r := H; have Cn := Aside0.mk Bu; clear Bu
        by_cases Bv : Bt = true
        ·subst Bv
         have H1 : (spec_l12Fits.j1 k1 l0 l1 l2 Ab Aa (rd l2 Aa) (decide (Aa ≥ (l0.length : Int)))) = some r := by rw [if_pos rfl] at H; exact H
         clear H; have H := H1; clear H1; have H' := Aside0.mk H; clear H
         go_wp2_with (first | ((with_reducible refine gate_callee (f := 65) rfl ?_); refine glE (some 27) Try.func65 #[.int .i64 (rd l2 Aa), .int .i64 0, .int .i64 (wrap64 ((l1.length : Int) - 1))] ?_; (with_reducible refine (spec_l1In.calls (rd l2 Aa) 0 (wrap64 ((l1.length : Int) - 1)) true _ Cn.out).mono ?_); rintro e w' ⟨rfl, ⟨nd, rfl⟩⟩; refine ⟨_, rfl, ?_⟩))
         go_meet
         case rel => exact ⟨_, (decide (Aa ≥ (l0.length : Int))), Z7, H', ⟨Z138⟩, ⟨Z99⟩, ⟨Z0⟩⟩
        ·replace Bv := Bool.eq_false_iff.mpr Bv
         subst Bv
         have H1 : (spec_l12Fits.j1 k1 l0 l1 l2 Ab Aa (rd l2 Aa) true) = some r := by rw [if_neg (show ¬ (false = true) by decide)] at H; exact H
         clear H; have H := H1; clear H1; have H' := Aside0.mk H; clear H
         go_wp2_with (first | ((with_reducible refine gate_callee (f := 65) rfl ?_); refine glE (some 27) Try.func65 #[.int .i64 (rd l2 Aa), .int .i64 0, .int .i64 (wrap64 ((l1.length : Int) - 1))] ?_; (with_reducible refine (spec_l1In.calls (rd l2 Aa) 0 (wrap64 ((l1.length : Int) - 1)) false _ Cn.out).mono ?_); rintro e w' ⟨rfl, ⟨nd, rfl⟩⟩; refine ⟨_, rfl, ?_⟩))
         go_meet
         case rel => exact ⟨_, (true), Z7, H', ⟨Z138⟩, ⟨Z99⟩, ⟨Z0⟩⟩
       case rest =>
        clear Bh; (try clear c1); (try clear c2); (try clear p2); (try clear q2); (try clear Cx); (try clear c4); (try clear c4b0); (try clear c4b1); (try clear c5); (try clear c5b0); (try clear c5b1); (try clear c6); (try clear p6); (try clear c8); (try clear c8b0); (try clear c9); (try clear c9b0); (try clear Bv); (try clear Aj); (try clear p2); (try clear Bd); (try clear Bf); obtain ⟨kq, Az, rfl, HA, HJ9, Ac, HB⟩ := hcut; cases kq with
        | zero => exact absurd HA.out (by simp [spec_l12Fits.j1])
        | succ B7 =>
         have H := HA.out; clear HA
         simp only [spec_l12Fits.j1] at H
         by_cases Bz : Az = true
         ·subst Bz
          have H1 : (some false) = some r := by rw [if_pos rfl] at H; exact H
          clear H; have H := H1; clear H1; obtain rfl := Option.some.inj H
          go_wp2
          go_ret
          exact ⟨Z6, Z0⟩
         ·replace Bz := Bool.eq_false_iff.mpr Bz
          subst Bz
          have H1 : (if 0 ≤ (rd l2 Aa) then (if (rd l2 Aa) < (Ab.length : Int) then (if 0 ≤ Aa then (if Aa < (l0.length : Int) then ((some (Ab.set ((rd l2 Aa) : Int).toNat (wrap64 ((rd Ab (rd l2 Aa)) + (rd l0 Aa))) : List Int)).bind fun Ah => (if (rd l2 Aa) < (l1.length : Int) then (if (rd Ah (rd l2 Aa)) > (rd l1 (rd l2 Aa)) then (some false) else (spec_l12Fits.l0 B7 l0 l1 l2 Ah (wrap64 (Aa + 1)))) else (none))) else (none)) else (none)) else (none)) else (none)) = some r := by rw [if_neg (show ¬ (false = true) by decide)] at H; exact H
          clear H; have H := H1; clear H1
          by_cases B0 : 0 ≤ (rd l2 Aa)
          ·rw [if_pos B0] at H
           have c14b0 : decide (0 ≤ (rd l2 Aa)) = true := decide_eq_true B0; clear B0
           by_cases B2 : (rd l2 Aa) < (Ab.length : Int)
           ·rw [if_pos B2] at H
            have c15b0 : decide ((rd l2 Aa) < (Ab.length : Int)) = true := decide_eq_true B2; clear B2
            by_cases B4 : 0 ≤ Aa
            ·rw [if_pos B4] at H
             have c16b0 : decide (0 ≤ Aa) = true := decide_eq_true B4; clear B4
             by_cases B5 : Aa < (l0.length : Int)
             ·rw [if_pos B5] at H
              have c17b0 : decide (Aa < (l0.length : Int)) = true := decide_eq_true B5; clear B5; obtain ⟨Ah, Al⟩ : ∃ y_ : List Int, y_ = (Ab.set ((rd l2 Aa) : Int).toNat (wrap64 ((rd Ab (rd l2 Aa)) + (rd l0 Aa)))) := ⟨_, rfl⟩
              replace H : (if (rd l2 Aa) < (l1.length : Int) then (if (rd Ah (rd l2 Aa)) > (rd l1 (rd l2 Aa)) then (some false) else (spec_l12Fits.l0 B7 l0 l1 l2 Ah (wrap64 (Aa + 1)))) else (none)) = some r := by first | (rw [Al]; with_reducible exact H) | (have H2_ := (Option.bind_some _ _).symm.trans H; rw [Al]; with_reducible exact H2_) | (have H2_ := (Option.bind_some _ _).symm.trans H; with_reducible exact H2_) | with_reducible exact H | (rw [Al]; exact H) | exact H
              have Ba := Aside0.mk Al; clear Al
              by_cases B6 : (rd l2 Aa) < (l1.length : Int)
              ·rw [if_pos B6] at H
               have c19b0 : decide ((rd l2 Aa) < (l1.length : Int)) = true := decide_eq_true B6; clear B6
               by_cases Bo : (rd Ah (rd l2 Aa)) > (rd l1 (rd l2 Aa))
               ·rw [if_pos Bo] at H
                have c20b0 : decide ((rd l1 (rd l2 Aa)) < (rd Ah (rd l2 Aa))) = true := decide_eq_true Bo; clear Bo; obtain rfl := Option.some.inj H
                try go_wp2
                replace Ac := aM (Kd.R_drew Ac.out); replace HB := aM (below_drew1 HB.out); obtain ⟨Cq, Ca, Bw⟩ := Kd.R_slice Ac.out
                (first | subst Bw | (injection Bw with f1_ f2_ f3_; have f4_ := f1_.symm; have f5_ := f3_.symm; clear f1_ f2_ f3_; subst f4_; subst f5_))
                have Am : 0 ≤ ((rd l2 Aa) : Int) := of_decide_eq_true Z3; have An : (rd l2 Aa) < (Ab.length : Int) := of_decide_eq_true Z3; obtain ⟨ad220, e220, Ag⟩ := Kd.at_int (Kd.R_reads' Ac.out).2.2 (rd l2 Aa) Am An; cases e220; replace Am := eq_true Am; replace An := eq_true An; have Ao : 0 ≤ (Aa : Int) := of_decide_eq_true Z3; have Ap : Aa < (l0.length : Int) := of_decide_eq_true Z3; obtain ⟨ad221, e221, Ad⟩ := Kd.at_int Cl.out Aa Ao Ap; have hw221_0 := Ad; cases e221; replace Ad := (HB.out.cell (World.block_lt_of_cell? w _ Ad)).trans Ad; replace Ao := eq_true Ao; replace Ap := eq_true Ap; have Bi : 0 ≤ ((rd l2 Aa) : Int) := of_decide_eq_true Z3; have Bj : ((rd l2 Aa) : Int) < ((Ab.length : Int) : Int) := of_decide_eq_true Z3; obtain ⟨Ai, Cb, Bb, Bc, gl18, cl18, HG18⟩ := Kd.R_form Ac.out (by omega)
                (first | cases Bb | (injection Bb with ea_ en_ ec_; (first | subst ea_ | (injection ea_ with ea_; subst ea_)); subst ec_; clear en_))
                have Bk := Aside0.mk Bc; have Bl := Aside0.mk HG18; clear Bc gl18 HG18
                (first | simp only [add_plain] at Ag | skip)
                obtain ⟨Aq, Ar⟩ := Kd.R_celln 0 Ac.out ((rd l2 Aa) : Int) Bi Bj; replace Bi := eq_true Bi; replace Bj := eq_true Bj; have Bm := Kd.R_putn Ac.out ((rd l2 Aa) : Int) (wrap64 ((rd Ab (rd l2 Aa)) + (rd l0 Aa))); rw [← Ba.out] at Bm; have HQ23 := Aside0.mk Bm; clear Bm; refine start_ (n := 13) (S := fun w' => w'.cell? ⟨Ai, ((rd l2 Aa)).toNat, none⟩ = some (.int .i64 (rd Ab (rd l2 Aa))) ∧ w'.cell? (ad221.add (Aa).toNat) = some (.int .i64 (rd l0 Aa))) (ds := [12]) #[false, false, false, false, false, false, false, false, false, false, false, false, false] Z33 rfl rfl ⟨Ag, ((HB.out.cell (World.block_lt_of_cell? w _ hw221_0)).trans hw221_0)⟩ (fun hHeld => ?_); refine with_tabW spec_l12Fits.tab8 spec_l12Fits.bits8 (fun HT_ HW_ => ?_)
                generalize wc.drew = Cc at Ac HB Bl HQ23 Ar Aq Ag Ad hHeld ⊢
                refine puR 0 35 #[true, false, false, false, false, false, false, false, false, false, false, false, false] HT_ rfl rfl ?_; refine puR 1 36 #[true, true, false, false, false, false, false, false, false, false, false, false, false] HT_ rfl rfl ?_; refine puR 2 37 #[true, true, true, false, false, false, false, false, false, false, false, false, false] HT_ rfl rfl ?_; refine puR 3 38 #[true, true, true, true, false, false, false, false, false, false, false, false, false] HT_ rfl rfl ?_; refine puR 4 39 #[true, true, true, true, true, false, false, false, false, false, false, false, false] HT_ rfl rfl ?_; refine puR 6 41 #[true, true, true, true, true, false, true, false, false, false, false, false, false] HT_ rfl rfl ?_; refine puR 7 42 #[true, true, true, true, true, false, true, true, false, false, false, false, false] HT_ rfl rfl ?_; refine puR 8 43 #[true, true, true, true, true, false, true, true, true, false, false, false, false] HT_ rfl rfl ?_; refine taR 5 40 #[true, true, true, true, true, true, true, true, true, false, false, false, false] HT_ HW_ hHeld rfl rfl ?_; refine taR 9 44 #[true, true, true, true, true, true, true, true, true, true, false, false, false] HT_ HW_ hHeld rfl rfl ?_; refine puR 10 45 #[true, true, true, true, true, true, true, true, true, true, true, false, false] HT_ rfl rfl ?_; refine puR 11 46 #[true, true, true, true, true, true, true, true, true, true, true, true, false] HT_ rfl rfl ?_; refine last_ (i := 12) (N := none) #[true, true, true, true, true, true, true, true, true, true, true, true, true] rfl rfl (one_of HT_.out Z33) (by decide) (fun K hK => ?_); refine skip_ (w1 := ?_) (by rfl) rfl ?_ ?_
                rotate_left
                ·go_simp
                 rfl
                refine hK.out _ _ ?_; clear hK K; refine done_ (done_of HT_.out Z33) ?_
                try go_wp2
                have n0_ : Aside0 (Kd.R (Kd.int .i64) 3 (Cc.setCell ⟨Ai, ((rd l2 Aa) : Int).toNat, none⟩ (.int .i64 (wrap64 ((rd Ab (rd l2 Aa)) + (rd l0 Aa))))) w.heap.size (fun _ => True) (.slice (some ⟨Ai, 0, none⟩) Ab.length Ca) Ah) := ⟨by (with_reducible repeat (first | apply Kd.R_alloc | apply Kd.R_drewN | apply Kd.R_drew)); exact HQ23.out⟩; have n1_ : Aside0 (Below w.heap.size w (Cc.setCell ⟨Ai, ((rd l2 Aa) : Int).toNat, none⟩ (.int .i64 (wrap64 ((rd Ab (rd l2 Aa)) + (rd l0 Aa)))))) := ⟨Z85⟩; (try clear Ac); (try clear HB)
                generalize (Cc.setCell ⟨Ai, ((rd l2 Aa) : Int).toNat, none⟩ (.int .i64 (wrap64 ((rd Ab (rd l2 Aa)) + (rd l0 Aa))))) = Cr at n0_ n1_ ⊢
                have Ac := n0_; have HB := n1_; clear n0_ n1_; replace Ac := aM (Kd.R_drew Ac.out); replace HB := aM (below_drew1 HB.out); have Au : 0 ≤ ((rd l2 Aa) : Int) := of_decide_eq_true Z3; have Aw : (rd l2 Aa) < (Ah.length : Int) := Z143; have ql223 : (((rd l2 Aa) : Int) < ((Ab.length : Int) : Int)) = True := eq_true (of_decide_eq_true Z3); obtain ⟨ad223, e223, Ae⟩ := Kd.at_int (Kd.R_reads' Ac.out).2.2 (rd l2 Aa) Au Aw; obtain rfl : (⟨Ai, 0, none⟩ : Addr) = ad223 := (by injection e223)
                (first | simp only [add_plain] at Ae | simp only [add_at] at Ae | simp only [Addr.add, Nat.zero_add] at Ae | skip)
                replace Au := eq_true Au; replace Aw := eq_true Aw; have Ax : 0 ≤ ((rd l2 Aa) : Int) := of_decide_eq_true Z3; have Ay : (rd l2 Aa) < (l1.length : Int) := of_decide_eq_true Z3; obtain ⟨ad224, e224, Af⟩ := Kd.at_int Cm.out (rd l2 Aa) Ax Ay; have hw224_0 := Af; cases e224; replace Af := (HB.out.cell (World.block_lt_of_cell? w _ Af)).trans Af; replace Ax := eq_true Ax; replace Ay := eq_true Ay; refine start_ (n := 9) (S := fun w' => w'.cell? ⟨Ai, ((rd l2 Aa)).toNat, none⟩ = some (.int .i64 (rd Ah (rd l2 Aa))) ∧ w'.cell? (ad224.add ((rd l2 Aa)).toNat) = some (.int .i64 (rd l1 (rd l2 Aa)))) (ds := []) #[false, false, false, false, false, false, false, false, false] Z33 rfl rfl ⟨Ae, ((HB.out.cell (World.block_lt_of_cell? w _ hw224_0)).trans hw224_0)⟩ (fun hHeld => ?_); refine with_tabW spec_l12Fits.tab9 spec_l12Fits.bits9 (fun HT_ HW_ => ?_)
                generalize Cr.drew = Cy at Ac HB HQ23 Ae Af hHeld ⊢
                refine puR 0 47 #[true, false, false, false, false, false, false, false, false] HT_ rfl rfl ?_; refine puR 1 48 #[true, true, false, false, false, false, false, false, false] HT_ rfl rfl ?_; refine puR 2 49 #[true, true, true, false, false, false, false, false, false] HT_ rfl rfl ?_; refine puR 4 51 #[true, true, true, false, true, false, false, false, false] HT_ rfl rfl ?_; refine puR 5 52 #[true, true, true, false, true, true, false, false, false] HT_ rfl rfl ?_; refine puR 6 53 #[true, true, true, false, true, true, true, false, false] HT_ rfl rfl ?_; refine taR 3 50 #[true, true, true, true, true, true, true, false, false] HT_ HW_ hHeld rfl rfl ?_; refine taR 7 54 #[true, true, true, true, true, true, true, true, false] HT_ HW_ hHeld rfl rfl ?_; refine puR 8 55 #[true, true, true, true, true, true, true, true, true] HT_ rfl rfl ?_; refine done_ (done_of HT_.out Z33) ?_
                try go_wp2
                go_ret
                exact ⟨Z6, Z0⟩
               ·rw [if_neg Bo] at H
                have c20b0 : decide ((rd l1 (rd l2 Aa)) < (rd Ah (rd l2 Aa))) = false := decide_eq_false Bo; clear Bo; have H' := Aside0.mk H; clear H
                try go_wp2
                replace Ac := aM (Kd.R_drew Ac.out); replace HB := aM (below_drew1 HB.out); obtain ⟨Cs, Cd, Bx⟩ := Kd.R_slice Ac.out
                (first | subst Bx | (injection Bx with f1_ f2_ f3_; have f4_ := f1_.symm; have f5_ := f3_.symm; clear f1_ f2_ f3_; subst f4_; subst f5_))
                have Am : 0 ≤ ((rd l2 Aa) : Int) := of_decide_eq_true Z3; have An : (rd l2 Aa) < (Ab.length : Int) := of_decide_eq_true Z3; obtain ⟨ad220, e220, Ag⟩ := Kd.at_int (Kd.R_reads' Ac.out).2.2 (rd l2 Aa) Am An; cases e220; replace Am := eq_true Am; replace An := eq_true An; have Ao : 0 ≤ (Aa : Int) := of_decide_eq_true Z3; have Ap : Aa < (l0.length : Int) := of_decide_eq_true Z3; obtain ⟨ad221, e221, Ad⟩ := Kd.at_int Cl.out Aa Ao Ap; have hw221_0 := Ad; cases e221; replace Ad := (HB.out.cell (World.block_lt_of_cell? w _ Ad)).trans Ad; replace Ao := eq_true Ao; replace Ap := eq_true Ap; have Bi : 0 ≤ ((rd l2 Aa) : Int) := of_decide_eq_true Z3; have Bj : ((rd l2 Aa) : Int) < ((Ab.length : Int) : Int) := of_decide_eq_true Z3; obtain ⟨Ai, Cb, Bb, Bc, gl18, cl18, HG18⟩ := Kd.R_form Ac.out (by omega)
                (first | cases Bb | (injection Bb with ea_ en_ ec_; (first | subst ea_ | (injection ea_ with ea_; subst ea_)); subst ec_; clear en_))
                have Bk := Aside0.mk Bc; have Bl := Aside0.mk HG18; clear Bc gl18 HG18
                (first | simp only [add_plain] at Ag | skip)
                obtain ⟨Aq, Ar⟩ := Kd.R_celln 0 Ac.out ((rd l2 Aa) : Int) Bi Bj; replace Bi := eq_true Bi; replace Bj := eq_true Bj; have Bn := Kd.R_putn Ac.out ((rd l2 Aa) : Int) (wrap64 ((rd Ab (rd l2 Aa)) + (rd l0 Aa))); rw [← Ba.out] at Bn; have HQ28 := Aside0.mk Bn; clear Bn; refine start_ (n := 13) (S := fun w' => w'.cell? ⟨Ai, ((rd l2 Aa)).toNat, none⟩ = some (.int .i64 (rd Ab (rd l2 Aa))) ∧ w'.cell? (ad221.add (Aa).toNat) = some (.int .i64 (rd l0 Aa))) (ds := [12]) #[false, false, false, false, false, false, false, false, false, false, false, false, false] Z33 rfl rfl ⟨Ag, ((HB.out.cell (World.block_lt_of_cell? w _ hw221_0)).trans hw221_0)⟩ (fun hHeld => ?_); refine with_tabW spec_l12Fits.tab8 spec_l12Fits.bits8 (fun HT_ HW_ => ?_)
                generalize wc.drew = Ce at Ac HB Bl HQ28 Ar Aq Ag Ad hHeld ⊢
                refine puR 0 35 #[true, false, false, false, false, false, false, false, false, false, false, false, false] HT_ rfl rfl ?_; refine puR 1 36 #[true, true, false, false, false, false, false, false, false, false, false, false, false] HT_ rfl rfl ?_; refine puR 2 37 #[true, true, true, false, false, false, false, false, false, false, false, false, false] HT_ rfl rfl ?_; refine puR 3 38 #[true, true, true, true, false, false, false, false, false, false, false, false, false] HT_ rfl rfl ?_; refine puR 4 39 #[true, true, true, true, true, false, false, false, false, false, false, false, false] HT_ rfl rfl ?_; refine puR 6 41 #[true, true, true, true, true, false, true, false, false, false, false, false, false] HT_ rfl rfl ?_; refine puR 7 42 #[true, true, true, true, true, false, true, true, false, false, false, false, false] HT_ rfl rfl ?_; refine puR 8 43 #[true, true, true, true, true, false, true, true, true, false, false, false, false] HT_ rfl rfl ?_; refine taR 5 40 #[true, true, true, true, true, true, true, true, true, false, false, false, false] HT_ HW_ hHeld rfl rfl ?_; refine taR 9 44 #[true, true, true, true, true, true, true, true, true, true, false, false, false] HT_ HW_ hHeld rfl rfl ?_; refine puR 10 45 #[true, true, true, true, true, true, true, true, true, true, true, false, false] HT_ rfl rfl ?_; refine puR 11 46 #[true, true, true, true, true, true, true, true, true, true, true, true, false] HT_ rfl rfl ?_; refine last_ (i := 12) (N := none) #[true, true, true, true, true, true, true, true, true, true, true, true, true] rfl rfl (one_of HT_.out Z33) (by decide) (fun K hK => ?_); refine skip_ (w1 := ?_) (by rfl) rfl ?_ ?_
                rotate_left
                ·go_simp
                 rfl
                refine hK.out _ _ ?_; clear hK K; refine done_ (done_of HT_.out Z33) ?_
                try go_wp2
                have n0_ : Aside0 (Kd.R (Kd.int .i64) 3 (Ce.setCell ⟨Ai, ((rd l2 Aa) : Int).toNat, none⟩ (.int .i64 (wrap64 ((rd Ab (rd l2 Aa)) + (rd l0 Aa))))) w.heap.size (fun _ => True) (.slice (some ⟨Ai, 0, none⟩) Ab.length Cd) Ah) := ⟨by (with_reducible repeat (first | apply Kd.R_alloc | apply Kd.R_drewN | apply Kd.R_drew)); exact HQ28.out⟩; have n1_ : Aside0 (Below w.heap.size w (Ce.setCell ⟨Ai, ((rd l2 Aa) : Int).toNat, none⟩ (.int .i64 (wrap64 ((rd Ab (rd l2 Aa)) + (rd l0 Aa)))))) := ⟨Z85⟩; (try clear Ac); (try clear HB)
                generalize (Ce.setCell ⟨Ai, ((rd l2 Aa) : Int).toNat, none⟩ (.int .i64 (wrap64 ((rd Ab (rd l2 Aa)) + (rd l0 Aa))))) = Ct at n0_ n1_ ⊢
                have Ac := n0_; have HB := n1_; clear n0_ n1_; replace Ac := aM (Kd.R_drew Ac.out); replace HB := aM (below_drew1 HB.out); have Au : 0 ≤ ((rd l2 Aa) : Int) := of_decide_eq_true Z3; have Aw : (rd l2 Aa) < (Ah.length : Int) := Z143; have ql223 : (((rd l2 Aa) : Int) < ((Ab.length : Int) : Int)) = True := eq_true (of_decide_eq_true Z3); obtain ⟨ad223, e223, Ae⟩ := Kd.at_int (Kd.R_reads' Ac.out).2.2 (rd l2 Aa) Au Aw; obtain rfl : (⟨Ai, 0, none⟩ : Addr) = ad223 := (by injection e223)
                (first | simp only [add_plain] at Ae | simp only [add_at] at Ae | simp only [Addr.add, Nat.zero_add] at Ae | skip)
                replace Au := eq_true Au; replace Aw := eq_true Aw; have Ax : 0 ≤ ((rd l2 Aa) : Int) := of_decide_eq_true Z3; have Ay : (rd l2 Aa) < (l1.length : Int) := of_decide_eq_true Z3; obtain ⟨ad224, e224, Af⟩ := Kd.at_int Cm.out (rd l2 Aa) Ax Ay; have hw224_0 := Af; cases e224; replace Af := (HB.out.cell (World.block_lt_of_cell? w _ Af)).trans Af; replace Ax := eq_true Ax; replace Ay := eq_true Ay; refine start_ (n := 9) (S := fun w' => w'.cell? ⟨Ai, ((rd l2 Aa)).toNat, none⟩ = some (.int .i64 (rd Ah (rd l2 Aa))) ∧ w'.cell? (ad224.add ((rd l2 Aa)).toNat) = some (.int .i64 (rd l1 (rd l2 Aa)))) (ds := []) #[false, false, false, false, false, false, false, false, false] Z33 rfl rfl ⟨Ae, ((HB.out.cell (World.block_lt_of_cell? w _ hw224_0)).trans hw224_0)⟩ (fun hHeld => ?_); refine with_tabW spec_l12Fits.tab9 spec_l12Fits.bits9 (fun HT_ HW_ => ?_)
                generalize Ct.drew = Cz at Ac HB HQ28 Ae Af hHeld ⊢
                refine puR 0 47 #[true, false, false, false, false, false, false, false, false] HT_ rfl rfl ?_; refine puR 1 48 #[true, true, false, false, false, false, false, false, false] HT_ rfl rfl ?_; refine puR 2 49 #[true, true, true, false, false, false, false, false, false] HT_ rfl rfl ?_; refine puR 4 51 #[true, true, true, false, true, false, false, false, false] HT_ rfl rfl ?_; refine puR 5 52 #[true, true, true, false, true, true, false, false, false] HT_ rfl rfl ?_; refine puR 6 53 #[true, true, true, false, true, true, true, false, false] HT_ rfl rfl ?_; refine taR 3 50 #[true, true, true, true, true, true, true, false, false] HT_ HW_ hHeld rfl rfl ?_; refine taR 7 54 #[true, true, true, true, true, true, true, true, false] HT_ HW_ hHeld rfl rfl ?_; refine puR 8 55 #[true, true, true, true, true, true, true, true, true] HT_ rfl rfl ?_; refine done_ (done_of HT_.out Z33) ?_
                try go_wp2
                go_roundg B7
                case measure => have := HK1.out; have := HJ9.out; omega
                case rel => exact ⟨(Ah), (wrap64 (Aa + 1)), Z7, H', ⟨by have := HK1.out; have := HJ9.out; omega⟩, ⟨Z99⟩, ⟨Z0⟩⟩
              ·rw [if_neg B6] at H
               exact absurd H (by simp)
             ·rw [if_neg B5] at H
              exact absurd H (by simp)
            ·rw [if_neg B4] at H
             exact absurd H (by simp)
           ·rw [if_neg B2] at H
            exact absurd H (by simp)
          ·rw [if_neg B0] at H
           exact absurd H (by simp)
      ·rw [if_neg c9] at H
       exact absurd H (by simp)
     ·rw [if_neg c8] at H
      have c8b0 : decide (Aa < (l2.length : Int)) = false := decide_eq_false c8; clear c8; obtain rfl := Option.some.inj H
      go_wp2
      go_ret
      exact ⟨Z6, Z0⟩
  ·rw [if_neg c5] at H
   exact absurd H (by simp)
 ·rw [if_neg c4] at H
  exact absurd H (by simp)
def spec_l1Has.l0 : Nat → List Int → Int → Int → Option (Bool)
 | 0, _, _, _ => none
 | k + 1, x0, x1, x5 => if x5 < (x0.length : Int) then (if 0 ≤ x5 then (if (rd x0 x5) = x1 then (some true) else (spec_l1Has.l0 k x0 x1 (wrap64 (x5 + 1)))) else (none)) else (some false)
def spec_l1Has.f (k : Nat) (l0 : List Int) (a1 : Int) : Option (Bool) := spec_l1Has.l0 k l0 a1 0
theorem spec_l1Has.calls (k : Nat) (A0 : Option Addr) (c0 : Nat) (l0 : List Int) (a1 : Int) (r : Bool) (w : World) (Ae : Kd.C (Kd.int .i64) w A0 l0.length l0) (Af : l0.length ≤ c0) (h : spec_l1Has.f k l0 a1 = some r) :
  Calls Try.prog 67 #[.slice A0 l0.length c0, .int .i64 a1] w fun e w' => e = .returned (.bool r) ∧ Drawn0 w w' := by
 have Ag := Aside0.mk Ae; have Ah := Aside0.mk Af; clear Ae Af; have H : (spec_l1Has.l0 k l0 a1 0) = some r := h; clear h; have H' := Aside0.mk H; clear H
 go_enter Try.func67, Try.ntmps67
 go_wp2
 go_loopg [5] k (fun kq v5 w' => ∃ (Aa : Int), v5 = .int .i64 Aa ∧ Aside0 (spec_l1Has.l0 kq l0 a1 Aa = some r) ∧ Aside0 (kq ≤ k) ∧ Drawn0 w w')
 case atStart => exact ⟨(0), Z7, H', ⟨Nat.le_refl _⟩, Z23⟩
 case round =>
  clear H'; (try clear p2); obtain ⟨Aa, rfl, HA, HK1, ⟨m1, rfl⟩⟩ := hrel; cases gk with
  | zero => exact absurd HA.out (by simp [spec_l1Has.l0])
  | succ k1 =>
   have H := HA.out; clear HA
   simp only [spec_l1Has.l0] at H
   by_cases c3 : Aa < (l0.length : Int)
   ·rw [if_pos c3] at H
    have c3b0 : decide (Aa < (l0.length : Int)) = true := decide_eq_true c3; clear c3
    by_cases c4 : 0 ≤ Aa
    ·rw [if_pos c4] at H
     have c4b0 : decide (0 ≤ Aa) = true := decide_eq_true c4; clear c4
     by_cases c5 : (rd l0 Aa) = a1
     ·rw [if_pos c5] at H
      have c5b0 : ((rd l0 Aa) == a1) = true := beq_iff_eq.mpr c5; have c5b1 : ((rd l0 Aa) != a1) = false := bne_eq_false_iff_eq.mpr c5; clear c5; obtain rfl := Option.some.inj H; have Ab : 0 ≤ (Aa : Int) := of_decide_eq_true Z3; have Ac : Aa < (l0.length : Int) := of_decide_eq_true Z3; obtain ⟨ad225, e225, Ad⟩ := Kd.at_int Ag.out Aa Ab Ac; cases e225; replace Ab := eq_true Ab; replace Ac := eq_true Ac
      go_wp2
      go_ret
      exact ⟨Z7, Z23⟩
     ·rw [if_neg c5] at H
      have c5b0 : ((rd l0 Aa) == a1) = false := beq_eq_false_iff_ne.mpr c5; have c5b1 : ((rd l0 Aa) != a1) = true := bne_iff_ne.mpr c5; have H' := Aside0.mk H; clear H; have Ab : 0 ≤ (Aa : Int) := of_decide_eq_true Z3; have Ac : Aa < (l0.length : Int) := of_decide_eq_true Z3; obtain ⟨ad225, e225, Ad⟩ := Kd.at_int Ag.out Aa Ab Ac; cases e225; replace Ab := eq_true Ab; replace Ac := eq_true Ac
      go_wp2
      go_roundg k1
      case measure => have := HK1.out; omega
      case rel => exact ⟨(wrap64 (Aa + 1)), Z7, H', ⟨Z66⟩, Z23⟩
    ·rw [if_neg c4] at H
     exact absurd H (by simp)
   ·rw [if_neg c3] at H
    have c3b0 : decide (Aa < (l0.length : Int)) = false := decide_eq_false c3; clear c3; obtain rfl := Option.some.inj H
    go_wp2
    go_ret
    exact ⟨Z7, Z23⟩
def spec_l12Different.l0 : Nat → List Int → Int → Int → Option (Int)
 | 0, _, _, _ => none
 | k + 1, x0, x3, x4 => if x4 < (x0.length : Int) then (if 0 ≤ x4 then (if x4 ≤ (x0.length : Int) then ((spec_l1Has.f k (x0.take (x4 : Int).toNat) (rd x0 x4)).bind fun t228 => (if t228 = true then (spec_l12Different.l0 k x0 x3 (wrap64 (x4 + 1))) else (spec_l12Different.l0 k x0 (wrap64 (x3 + 1)) (wrap64 (x4 + 1))))) else (none)) else (none)) else (some x3)
def spec_l12Different.f (k : Nat) (l0 : List Int) : Option (Int) := spec_l12Different.l0 k l0 0 0
theorem spec_l12Different.calls (k : Nat) (A0 : Option Addr) (c0 : Nat) (l0 : List Int) (r : Int) (w : World) (Aj : Kd.C (Kd.int .i64) w A0 l0.length l0) (Ak : l0.length ≤ c0) (h : spec_l12Different.f k l0 = some r) :
  Calls Try.prog 82 #[.slice A0 l0.length c0] w fun e w' => e = .returned (.int .i64 r) ∧ Drawn0 w w' := by
 have Ai := Aside0.mk Aj; have Al := Aside0.mk Ak; clear Aj Ak; have H : (spec_l12Different.l0 k l0 0 0) = some r := h; clear h; have H' := Aside0.mk H; clear H
 go_enter Try.func82, Try.ntmps82
 go_wp2
 repeat (go_quiet (fail); try go_wp2)
 go_loopg [3, 4] k (fun kq v3 v4 w' => ∃ (Ad : Int) (Aa : Int), v3 = .int .i64 Ad ∧ v4 = .int .i64 Aa ∧ Aside0 (spec_l12Different.l0 kq l0 Ad Aa = some r) ∧ Aside0 (kq ≤ k) ∧ Drawn0 w w')
 case atStart => exact ⟨(0), (0), Z7, Z7, H', ⟨Nat.le_refl _⟩, Z23⟩
 case round =>
  clear H'; obtain ⟨Ad, Aa, rfl, rfl, HA, HK1, ⟨m1, rfl⟩⟩ := hrel; cases gk with
  | zero => exact absurd HA.out (by simp [spec_l12Different.l0])
  | succ k1 =>
   have H := HA.out; clear HA
   simp only [spec_l12Different.l0] at H
   by_cases c2 : Aa < (l0.length : Int)
   ·rw [if_pos c2] at H
    have c2b0 : decide (Aa < (l0.length : Int)) = true := decide_eq_true c2; clear c2
    by_cases c3 : 0 ≤ Aa
    ·rw [if_pos c3] at H
     have c3b0 := eq_true c3; have c3b1 : decide (0 ≤ Aa) = true := decide_eq_true c3; clear c3
     by_cases c4 : Aa ≤ (l0.length : Int)
     ·rw [if_pos c4] at H
      have c4b0 := eq_true c4; have c4b1 : decide (Aa ≤ (l0.length : Int)) = true := decide_eq_true c4; clear c4; replace H := Option.bind_eq_some_iff.mp H; obtain ⟨Ah, Am, H⟩ := H; replace H : (if Ah = true then (spec_l12Different.l0 k1 l0 Ad (wrap64 (Aa + 1))) else (spec_l12Different.l0 k1 l0 (wrap64 (Ad + 1)) (wrap64 (Aa + 1)))) = some r := H; have A5 := Aside0.mk Am; clear Am
      by_cases c6 : Ah = true
      ·subst c6
       have H1 : (spec_l12Different.l0 k1 l0 Ad (wrap64 (Aa + 1))) = some r := by rw [if_pos rfl] at H; exact H
       clear H; have H := H1; clear H1; have H' := Aside0.mk H; clear H; obtain ⟨i07, hi07, _, hsz7, _⟩ := info_parts info3; obtain ⟨hcut7, hA7, hC7⟩ := print_take_of (P := Try.prog) (Value.int .i64) 0 22 3 .i64 Try.underlying22 hi07 hsz7 A0 c0 l0 Aa (of_decide_eq_true Z3) (of_decide_eq_true Z3) Al.out; have HTK7 : Aside0 (Aa.toNat = (l0.take Aa.toNat).length) := ⟨by have h1_ : 0 ≤ Aa := of_decide_eq_true (by assumption); have h2_ : Aa ≤ (l0.length : Int) := of_decide_eq_true (by assumption); rw [List.length_take]; omega⟩; have Ab := aM (Kd.C_of_reads (h1 := fun _ => rfl) (hA7 _ (Kd.reads_of_C Ai.out))); have Ac := Aside0.mk hC7; clear hA7 hC7 hi07 hsz7; have Ae : 0 ≤ (Aa : Int) := of_decide_eq_true Z3; have Af : Aa < (l0.length : Int) := of_decide_eq_true Z3; obtain ⟨ad227, e227, Ag⟩ := Kd.at_int Ai.out Aa Ae Af; cases e227; replace Ae := eq_true Ae; replace Af := eq_true Af
       go_wp2_with (first | (go_at_call 67; (with_reducible refine (spec_l1Has.calls k1 _ _ (l0.take (Aa : Int).toNat) (rd l0 Aa) true _ ?side1 ?side2 A5.out).mono ?_); (case side1 => exact Z32); (case side2 => exact Ac.out); rintro e w' ⟨rfl, ⟨nd, rfl⟩⟩; (try first | exact ⟨rfl, _, World.drewN_drewN _ _ _⟩ | exact ⟨rfl, _, Eq.trans (World.drewN_drewN _ _ _) (congrArg (World.drewN _) (Nat.add_assoc _ _ _))⟩)))
       repeat (go_quiet (first | (go_at_call 67; (try rw [HTK7.out]); (with_reducible refine (spec_l1Has.calls k1 _ _ (l0.take (Aa : Int).toNat) (rd l0 Aa) true _ ?side1 ?side2 A5.out).mono ?_); (case side1 => exact Z32); (case side2 => exact Ac.out); rintro e w' ⟨rfl, ⟨nd, rfl⟩⟩; (try first | exact ⟨rfl, _, World.drewN_drewN _ _ _⟩ | exact ⟨rfl, _, Eq.trans (World.drewN_drewN _ _ _) (congrArg (World.drewN _) (Nat.add_assoc _ _ _))⟩))); try go_wp2_with (first | (go_at_call 67; (try rw [HTK7.out]); (with_reducible refine (spec_l1Has.calls k1 _ _ (l0.take (Aa : Int).toNat) (rd l0 Aa) true _ ?side1 ?side2 A5.out).mono ?_); (case side1 => exact Z32); (case side2 => exact Ac.out); rintro e w' ⟨rfl, ⟨nd, rfl⟩⟩; (try first | exact ⟨rfl, _, World.drewN_drewN _ _ _⟩ | exact ⟨rfl, _, Eq.trans (World.drewN_drewN _ _ _) (congrArg (World.drewN _) (Nat.add_assoc _ _ _))⟩))))
       go_roundg k1
       case measure => have := HK1.out; omega
       case rel => exact ⟨(Ad), (wrap64 (Aa + 1)), Z7, Z7, H', ⟨Z66⟩, Z23⟩
      ·replace c6 := Bool.eq_false_iff.mpr c6
       subst c6
       have H1 : (spec_l12Different.l0 k1 l0 (wrap64 (Ad + 1)) (wrap64 (Aa + 1))) = some r := by rw [if_neg (show ¬ (false = true) by decide)] at H; exact H
       clear H; have H := H1; clear H1; have H' := Aside0.mk H; clear H; obtain ⟨i08, hi08, _, hsz8, _⟩ := info_parts info3; obtain ⟨hcut8, hA8, hC8⟩ := print_take_of (P := Try.prog) (Value.int .i64) 0 22 3 .i64 Try.underlying22 hi08 hsz8 A0 c0 l0 Aa (of_decide_eq_true Z3) (of_decide_eq_true Z3) Al.out; have HTK8 : Aside0 (Aa.toNat = (l0.take Aa.toNat).length) := ⟨by have h1_ : 0 ≤ Aa := of_decide_eq_true (by assumption); have h2_ : Aa ≤ (l0.length : Int) := of_decide_eq_true (by assumption); rw [List.length_take]; omega⟩; have Ab := aM (Kd.C_of_reads (h1 := fun _ => rfl) (hA8 _ (Kd.reads_of_C Ai.out))); have Ac := Aside0.mk hC8; clear hA8 hC8 hi08 hsz8; have Ae : 0 ≤ (Aa : Int) := of_decide_eq_true Z3; have Af : Aa < (l0.length : Int) := of_decide_eq_true Z3; obtain ⟨ad227, e227, Ag⟩ := Kd.at_int Ai.out Aa Ae Af; cases e227; replace Ae := eq_true Ae; replace Af := eq_true Af
       go_wp2_with (first | (go_at_call 67; (with_reducible refine (spec_l1Has.calls k1 _ _ (l0.take (Aa : Int).toNat) (rd l0 Aa) false _ ?side1 ?side2 A5.out).mono ?_); (case side1 => exact Z32); (case side2 => exact Ac.out); rintro e w' ⟨rfl, ⟨nd, rfl⟩⟩; (try first | exact ⟨rfl, _, World.drewN_drewN _ _ _⟩ | exact ⟨rfl, _, Eq.trans (World.drewN_drewN _ _ _) (congrArg (World.drewN _) (Nat.add_assoc _ _ _))⟩)))
       repeat (go_quiet (first | (go_at_call 67; (try rw [HTK8.out]); (with_reducible refine (spec_l1Has.calls k1 _ _ (l0.take (Aa : Int).toNat) (rd l0 Aa) false _ ?side1 ?side2 A5.out).mono ?_); (case side1 => exact Z32); (case side2 => exact Ac.out); rintro e w' ⟨rfl, ⟨nd, rfl⟩⟩; (try first | exact ⟨rfl, _, World.drewN_drewN _ _ _⟩ | exact ⟨rfl, _, Eq.trans (World.drewN_drewN _ _ _) (congrArg (World.drewN _) (Nat.add_assoc _ _ _))⟩))); try go_wp2_with (first | (go_at_call 67; (try rw [HTK8.out]); (with_reducible refine (spec_l1Has.calls k1 _ _ (l0.take (Aa : Int).toNat) (rd l0 Aa) false _ ?side1 ?side2 A5.out).mono ?_); (case side1 => exact Z32); (case side2 => exact Ac.out); rintro e w' ⟨rfl, ⟨nd, rfl⟩⟩; (try first | exact ⟨rfl, _, World.drewN_drewN _ _ _⟩ | exact ⟨rfl, _, Eq.trans (World.drewN_drewN _ _ _) (congrArg (World.drewN _) (Nat.add_assoc _ _ _))⟩))))
       go_roundg k1
       case measure => have := HK1.out; omega
       case rel => exact ⟨(wrap64 (Ad + 1)), (wrap64 (Aa + 1)), Z7, Z7, H', ⟨Z66⟩, Z23⟩
     ·rw [if_neg c4] at H
      exact absurd H (by simp)
    ·rw [if_neg c3] at H
     exact absurd H (by simp)
   ·rw [if_neg c2] at H
    have c2b0 : decide (Aa < (l0.length : Int)) = false := decide_eq_false c2; clear c2; obtain rfl := Option.some.inj H
    go_wp2
    repeat (go_quiet (fail); try go_wp2)
    go_ret
    exact ⟨Z7, Z23⟩
def spec_l1Own.f (l0 : List Int) : Option (List Int) := (some (([] : List Int) : List Int)).bind fun y229 => (if y229.length + l0.length < 17592186044416 then (some (y229 ++ l0)) else (none))
theorem spec_l1Own.calls (A0 : Option Addr) (c0 : Nat) (l0 : List Int) (r : List Int) (w : World) (Ak : Kd.C (Kd.int .i64) w A0 l0.length l0) (Al : l0.length ≤ c0) (h : spec_l1Own.f l0 = some r) :
  Calls Try.prog 83 #[.slice A0 l0.length c0] w fun e w' => ∃ v0_ : Value, e = .returned (v0_) ∧ Kd.R (Kd.int .i64) 3 w' w.heap.size (fun _ => True) v0_ r ∧ Below w.heap.size w w' := by
 have Am := Aside0.mk Ak; have Ao := Aside0.mk Al; clear Ak Al; have HB := aM (Below.refl w.heap.size w); have H : ((some (([] : List Int) : List Int)).bind fun Aa => (if Aa.length + l0.length < 17592186044416 then (some (Aa ++ l0)) else (none))) = some r := h; clear h; obtain ⟨Aa, Ab⟩ : ∃ y_ : List Int, y_ = (([] : List Int)) := ⟨_, rfl⟩
 replace H : (if Aa.length + l0.length < 17592186044416 then (some (Aa ++ l0)) else (none)) = some r := by first | (rw [Ab]; with_reducible exact H) | (have H2_ := (Option.bind_some _ _).symm.trans H; rw [Ab]; with_reducible exact H2_) | (have H2_ := (Option.bind_some _ _).symm.trans H; with_reducible exact H2_) | with_reducible exact H | (rw [Ab]; exact H) | exact H
 have Ad := Aside0.mk Ab; clear Ab
 by_cases c2 : Aa.length + l0.length < 17592186044416
 ·rw [if_pos c2] at H
  have LMc2 := Aside0.mk c2; clear c2; obtain ⟨Ai, Ac⟩ : ∃ y_ : List Int, y_ = (Aa ++ l0) := ⟨_, rfl⟩
  replace H : (some Ai) = some r := by first | (rw [Ac]; with_reducible exact H) | (have H2_ := (Option.bind_some _ _).symm.trans H; rw [Ac]; with_reducible exact H2_) | (have H2_ := (Option.bind_some _ _).symm.trans H; with_reducible exact H2_) | with_reducible exact H | (rw [Ac]; exact H) | exact H
  have Af := Aside0.mk Ac; clear Ac; obtain rfl := Option.some.inj H
  go_enter Try.func83, Try.ntmps83
  go_wp2_with (first | ((with_reducible refine gate_dst (N := 3) rfl ?_); refine Kd.R_lit (Kd.int .i64) _ 3 ?hg (N := 3) ?hd (xs := ([] : List Int)) (inner := []) (ok := fun _ => True) (okp := fun _ => True) ?hr ?hp (fun _ hk => hk) trivial (Below.refl _ _) (Nat.le_refl _) (by simp) ?_; (case hd => rfl); (case hg => rfl); (case hr => first | (go_simp; done) | (go_simp; rfl)); (case hp => exact (Reps.none _ _)); intro Aj w3 Ag hb hg_ hnew_; clear hg_ hnew_; (first | rw [← Ad.out] at Ag | (simp only [Int.reduceToNat] at Ag; rw [← Ad.out] at Ag)); have Ae := aM (Kd.R_lower Ag (below_size Z0)); replace HB := hbS Z0 hb; clear hb Ag) | ((with_reducible refine gate_builtin (b := .append) (xs := #[.tmp 3, .tmp 4]) rfl ?_); at_builtin; refine Kd.R_append_rows (Kd.int .i64) (w0 := w) w.heap.size rfl (.tmp 3) (.tmp 4) 22 3 (.int .i64 0) 8 rfl Try.underlying22 info3 rfl (by decide) (by omega) Aj Aa l0 _ _ _ (fun _ => True) (fun _ => False) rfl rfl ?aO ?aR (fun _ _ h => h) (fun _ h => h.elim) ?aF ?aB ?aS ?aL ?_; (case aR => repeat (first | exact (Kd.C_below Am.out HB.out) | (with_reducible refine Kd.C_alloc ?_ _) | (with_reducible refine Kd.C_drewN ?_ _) | (with_reducible refine Kd.C_drew ?_))); (case aB => exact Z0); (case aF => exact (fun _ _ => trivial)); (case aO => exact Z25); (case aS => exact (below_size Z0)); (case aL => have := LMc2.out; omega); intro An w5 ho hb hg hat; rw [← Af.out] at ho; replace HB := aM (hb); have Ah := aM (ho); clear Ae; clear ho hb hg hat))
  go_ret
  exact ⟨_, Z6, Z47, Z0⟩
 ·rw [if_neg c2] at H
  exact absurd H (by simp)
mutual
def spec_l12Search.j0 : Nat → List Int → List Int → Int → List Int → Bool → Option (List Int × Bool)
 | 0, _, _, _, _, _ => none
 | k + 1, x0, x1, x2, x3, x23 => if x23 = true then (some ((([] : List Int)), false)) else (if (x3.length : Int) = (x0.length : Int) then (some (x3, true)) else (spec_l12Search.l0 k x0 x1 x2 x3 0))
def spec_l12Search.l0 : Nat → List Int → List Int → Int → List Int → Int → Option (List Int × Bool)
 | 0, _, _, _, _, _ => none
 | k + 1, x0, x1, x2, x3, x10 => if x10 < (x1.length : Int) then ((spec_l1Own.f x3).bind fun t243 => (if t243.length < 17592186044416 then ((spec_l12Search.f k x0 x1 x2 (t243 ++ [x10])).bind fun bt249 => (if bt249.2 = true then (some (bt249.1, true)) else (spec_l12Search.l0 k x0 x1 x2 x3 (wrap64 (x10 + 1))))) else (none))) else (some ((([] : List Int)), false))
def spec_l12Search.f : Nat → List Int → List Int → Int → List Int → Option (List Int × Bool)
 | 0, _, _, _, _ => none
 | k + 1, l0, l1, a2, l3 => (spec_l12Fits.f k l0 l1 l3).bind fun t235 => (if t235 = true then ((spec_l12Different.f k l3).bind fun t236 => (spec_l12Search.j0 k l0 l1 a2 l3 (decide (t236 > a2)))) else (spec_l12Search.j0 k l0 l1 a2 l3 true))
end
theorem spec_l12Search.calls (k : Nat) : ∀ (A0 : Option Addr) (c0 : Nat) (l0 : List Int) (A1 : Option Addr) (c1 : Nat) (l1 : List Int) (a2 : Int) (P3_ : Nat → Prop) (u9000_ : Value) (l3 : List Int) (r1 : List Int) (r2 : Bool) (w0 w : World) (hB : Below w0.heap.size w0 w) (Bw : ∀ W_, Kept w W_ (fun k_ => P3_ k_) → Kd.C (Kd.int .i64) W_ A0 l0.length l0) (Bx : l0.length ≤ c0) (Bz : ∀ W_, Kept w W_ (fun k_ => P3_ k_) → Kd.C (Kd.int .i64) W_ A1 l1.length l1) (B0 : l1.length ≤ c1) (Ch : Kd.R (Kd.int .i64) 3 w w0.heap.size P3_ u9000_ l3) (h : spec_l12Search.f k l0 l1 a2 l3 = some (r1, r2)),
  Calls Try.prog 60 #[.slice A0 l0.length c0, .slice A1 l1.length c1, .int .i64 a2, u9000_] w fun e w' => ∃ v0_ : Value, e = .returned (.tuple #[v0_, .bool r2]) ∧ Kd.R (Kd.int .i64) 3 w' w0.heap.size (fun k_ => (P3_ k_ ∨ w.heap.size ≤ k_)) v0_ r1 ∧ Below w0.heap.size w0 w' ∧ Kept w w' (fun k_ => P3_ k_) := by
 induction k using Nat.strongRecOn with
 | _ k ih =>
 intro A0 c0 l0 A1 c1 l1 a2 P3_ u9000_ l3 r1 r2 w0 w hB Bw Bx Bz B0 Ch h; cases k with
 | zero => exact absurd h (by simp [spec_l12Search.f])
 | succ k =>
 simp only [spec_l12Search.f] at h
 have Bq := Aside0.mk Bw; have Br := Aside0.mk Bx; clear Bw Bx; have Bs := Aside0.mk Bz; have Bt := Aside0.mk B0; clear Bz B0; have Ao := aM (show Kd.R (Kd.int .i64) 3 w w0.heap.size (fun k_ => (P3_ k_ ∨ w.heap.size ≤ k_)) u9000_ l3 from Kd.R_mono Ch (fun k_ hk => (.inl hk))); have HK := aM (Kept.refl w (fun k_ => P3_ k_)); have Cv := Aside0.mk hB.size; have HB := Aside0.mk hB; clear hB; have H : ((spec_l12Fits.f k l0 l1 l3).bind fun Aw => (if Aw = true then ((spec_l12Different.f k l3).bind fun Ae => (spec_l12Search.j0 k l0 l1 a2 l3 (decide (Ae > a2)))) else (spec_l12Search.j0 k l0 l1 a2 l3 true))) = some (r1, r2) := h; clear h; have B2 := Aside0.mk H; clear H
 go_enter Try.func60, Try.ntmps60
 go_upto_region 1 with (fail)
 go_cut [23] (fun Cm wc => ∃ (kq : Nat) (Ap : Bool), Cm = .bool Ap ∧ Aside0 (spec_l12Search.j0 kq l0 l1 a2 l3 Ap = some (r1, r2)) ∧ Aside0 (kq ≤ k) ∧ Aside0 (Kd.R (Kd.int .i64) 3 wc w0.heap.size (fun k_ => (P3_ k_ ∨ w.heap.size ≤ k_)) u9000_ l3) ∧ Aside0 (Kept w wc (fun k_ => P3_ k_)) ∧ Aside0 (Below w0.heap.size w0 wc))
 case first =>
  have H := B2.out; clear B2; replace H := Option.bind_eq_some_iff.mp H; obtain ⟨Aw, Ci, H⟩ := H; replace H : (if Aw = true then ((spec_l12Different.f k l3).bind fun Ae => (spec_l12Search.j0 k l0 l1 a2 l3 (decide (Ae > a2)))) else (spec_l12Search.j0 k l0 l1 a2 l3 true)) = some (r1, r2) := H; have A6 := Aside0.mk Ci; clear Ci
  by_cases c7 : Aw = true
  ·subst c7
   have H1 : ((spec_l12Different.f k l3).bind fun Ae => (spec_l12Search.j0 k l0 l1 a2 l3 (decide (Ae > a2)))) = some (r1, r2) := by rw [if_pos rfl] at H; exact H
   clear H; have H := H1; clear H1; replace H := Option.bind_eq_some_iff.mp H; obtain ⟨Ae, Cj, H⟩ := H; replace H : (spec_l12Search.j0 k l0 l1 a2 l3 (decide (Ae > a2))) = some (r1, r2) := H; have A8 := Aside0.mk Cj; clear Cj; have H' := Aside0.mk H; clear H; obtain ⟨Cn, Co, Cp⟩ := Kd.R_slice Ao.out; subst Cp
   go_wp2_with (first | ((with_reducible refine gate_callee (f := 56) rfl ?_); refine glE (some 16) Try.func56 #[.slice A0 l0.length c0, .slice A1 l1.length c1, .slice Cn l3.length Co] ?_; (with_reducible refine (spec_l12Fits.calls k _ _ l0 _ _ l1 _ _ l3 true _ ?side1 ?side2 ?side3 ?side4 ?side5 ?side6 A6.out).mono ?_); (case side1 => exact Kd.C_kept_now Bq.out Z5); (case side2 => exact Br.out); (case side3 => exact Kd.C_kept_now Bs.out Z5); (case side4 => exact Bt.out); (case side5 => exact Z55); (case side6 => exact (Kd.R_reads' Ao.out).2.1); rintro e Cw ⟨rfl, hb⟩; refine ⟨_, rfl, ?_⟩; replace Ao := roB Ao hb; replace HK := aM (Kept.below (S := (fun k_ => P3_ k_)) Z5 hb); replace HB := hbS Z0 hb; (try clear hb)) | (go_at_call 82; (with_reducible refine (spec_l12Different.calls k _ _ l3 Ae _ ?side1 ?side2 A8.out).mono ?_); (case side1 => exact Z55); (case side2 => exact (Kd.R_reads' Ao.out).2.1); rintro e w' ⟨rfl, ⟨nd, rfl⟩⟩))
   go_meet
   case rel => exact ⟨_, (decide (Ae > a2)), Z7, H', ⟨Z103⟩, ⟨Z28⟩, ⟨Z5⟩, ⟨Z0⟩⟩
  ·replace c7 := Bool.eq_false_iff.mpr c7
   subst c7
   have H1 : (spec_l12Search.j0 k l0 l1 a2 l3 true) = some (r1, r2) := by rw [if_neg (show ¬ (false = true) by decide)] at H; exact H
   clear H; have H := H1; clear H1; have H' := Aside0.mk H; clear H; obtain ⟨B4, B5, B6⟩ := Kd.R_slice Ao.out; subst B6
   go_wp2_with (first | ((with_reducible refine gate_callee (f := 56) rfl ?_); refine glE (some 16) Try.func56 #[.slice A0 l0.length c0, .slice A1 l1.length c1, .slice B4 l3.length B5] ?_; (with_reducible refine (spec_l12Fits.calls k _ _ l0 _ _ l1 _ _ l3 false _ ?side1 ?side2 ?side3 ?side4 ?side5 ?side6 A6.out).mono ?_); (case side1 => exact Kd.C_kept_now Bq.out Z5); (case side2 => exact Br.out); (case side3 => exact Kd.C_kept_now Bs.out Z5); (case side4 => exact Bt.out); (case side5 => exact Z55); (case side6 => exact (Kd.R_reads' Ao.out).2.1); rintro e Cx ⟨rfl, hb⟩; refine ⟨_, rfl, ?_⟩; replace Ao := roB Ao hb; replace HK := aM (Kept.below (S := (fun k_ => P3_ k_)) Z5 hb); replace HB := hbS Z0 hb; (try clear hb)))
   go_meet
   case rel => exact ⟨_, (true), Z7, H', ⟨Z103⟩, ⟨Z28⟩, ⟨Z5⟩, ⟨Z0⟩⟩
 case rest =>
  clear B2; (try clear c1); (try clear p2); (try clear c5); (try clear c6); (try clear c7); obtain ⟨kq, Ap, rfl, HA, HJ4, Aa, HK, HB⟩ := hcut; cases kq with
  | zero => exact absurd HA.out (by simp [spec_l12Search.j0])
  | succ B7 =>
   have H := HA.out; clear HA
   simp only [spec_l12Search.j0] at H
   by_cases Bk : Ap = true
   ·subst Bk
    have H1 : (some ((([] : List Int)), false)) = some (r1, r2) := by rw [if_pos rfl] at H; exact H
    clear H; have H := H1; clear H1; obtain ⟨Ca, Ag⟩ : ∃ y_ : List Int, y_ = (([] : List Int)) := ⟨_, rfl⟩
    replace H : (some (Ca, false)) = some (r1, r2) := by first | (rw [Ag]; with_reducible exact H) | (have H2_ := (Option.bind_some _ _).symm.trans H; rw [Ag]; with_reducible exact H2_) | (have H2_ := (Option.bind_some _ _).symm.trans H; with_reducible exact H2_) | with_reducible exact H | (rw [Ag]; exact H) | exact H
    have Ay := Aside0.mk Ag; clear Ag
    simp only [Option.some.injEq, Prod.mk.injEq] at H
    obtain ⟨rfl, rfl⟩ := H
    go_wp2_with (first | ((with_reducible refine gate_dst (N := 24) rfl ?_); refine Kd.R_lit (Kd.int .i64) _ 3 ?hg (N := 24) ?hd (xs := ([] : List Int)) (inner := []) (ok := fun _ => True) (okp := fun _ => True) ?hr ?hp (fun _ hk => hk) trivial (Below.refl _ _) (Nat.le_refl _) (by simp) ?_; (case hd => rfl); (case hg => rfl); (case hr => first | (go_simp; done) | (go_simp; rfl)); (case hp => exact (Reps.none _ _)); intro Cq Cy Aq hb hg_ hnew_; clear hg_ hnew_; (first | rw [← Ay.out] at Aq | (simp only [Int.reduceToNat] at Aq; rw [← Ay.out] at Aq)); have Bl := aM (Kd.R_lower (Kd.R_new' (Kd.R_newM (M := fun k_ => (P3_ k_ ∨ w.heap.size ≤ k_)) Aq Z142 (fun k_ h_ => .inr h_)) (Kd.R_lt Z17)) (below_size Z0)); replace Aa := aM (Kd.R_elder' Z17 (Kd.R_base Aq) hb); replace HK := aM (Kept.below (S := (fun k_ => P3_ k_)) Z5 hb); replace HB := hbS Z0 hb; clear hb Aq))
    go_ret2
    exact ⟨_, Z6, by (with_reducible repeat (first | apply Kd.R_alloc | apply Kd.R_drewN | apply Kd.R_drew)); exact Kd.R_mono Bl.out (fun _ hk => hk.1.1), Z0, Z5⟩
   ·replace Bk := Bool.eq_false_iff.mpr Bk
    subst Bk
    have H1 : (if (l3.length : Int) = (l0.length : Int) then (some (l3, true)) else (spec_l12Search.l0 B7 l0 l1 a2 l3 0)) = some (r1, r2) := by rw [if_neg (show ¬ (false = true) by decide)] at H; exact H
    clear H; have H := H1; clear H1
    by_cases Au : (l3.length : Int) = (l0.length : Int)
    ·rw [if_pos Au] at H
     have c16b0 : ((l3.length : Int) == (l0.length : Int)) = true := beq_iff_eq.mpr Au; have c16b1 : ((l3.length : Int) != (l0.length : Int)) = false := bne_eq_false_iff_eq.mpr Au
     have c16b2 : (l3.length == l0.length) = true := by first | simpa using Au | (simp at Au ⊢; omega)
     clear Au
     simp only [Option.some.injEq, Prod.mk.injEq] at H
     obtain ⟨rfl, rfl⟩ := H; obtain ⟨Cr, Cs, Cb⟩ := Kd.R_slice Aa.out; subst Cb
     go_wp2
     go_ret2
     exact ⟨_, Z6, Z17, Z0, Z5⟩
    ·rw [if_neg Au] at H
     have c16b0 : ((l3.length : Int) == (l0.length : Int)) = false := beq_eq_false_iff_ne.mpr Au; have c16b1 : ((l3.length : Int) != (l0.length : Int)) = true := bne_iff_ne.mpr Au
     have c16b2 : (l3.length == l0.length) = false := by first | simpa using Au | (simp at Au ⊢; omega)
     have H' := Aside0.mk H; clear H; obtain ⟨Al, Am, Cc⟩ := Kd.R_slice Aa.out; subst Cc
     go_wp2
     go_loopg [10] B7 (fun kq Ct w' => ∃ (Ab : Int), Ct = .int .i64 Ab ∧ Aside0 (spec_l12Search.l0 kq l0 l1 a2 l3 Ab = some (r1, r2)) ∧ Aside0 (kq ≤ B7) ∧ Aside0 (Kd.R (Kd.int .i64) 3 w' w0.heap.size (fun k_ => (P3_ k_ ∨ w.heap.size ≤ k_)) (.slice Al l3.length Am) l3) ∧ Aside0 (Kept w w' (fun k_ => P3_ k_)) ∧ Aside0 (Below w0.heap.size w0 w'))
     case atStart => exact ⟨(0), Z7, H', ⟨Nat.le_refl _⟩, ⟨Z17⟩, ⟨Z5⟩, ⟨Z0⟩⟩
     case round =>
      clear H'; (try clear c1); (try clear p2); (try clear c5); (try clear c6); (try clear c7); (try clear Bk); (try clear Au); (try clear c16b0); (try clear c16b1); (try clear c16b2); (try clear p2); obtain ⟨Ab, rfl, HA, HK2, Aa, HK, HB⟩ := hrel; cases gk with
      | zero => exact absurd HA.out (by simp [spec_l12Search.l0])
      | succ k2 =>
       have H := HA.out; clear HA
       simp only [spec_l12Search.l0] at H
       by_cases Bj : Ab < (l1.length : Int)
       ·rw [if_pos Bj] at H
        have c19b0 : decide (Ab < (l1.length : Int)) = true := decide_eq_true Bj; clear Bj; replace H := Option.bind_eq_some_iff.mp H; obtain ⟨Ah, Bm, H⟩ := H; replace H : (if Ah.length < 17592186044416 then ((spec_l12Search.f k2 l0 l1 a2 (Ah ++ [Ab])).bind fun Ai => (if Ai.2 = true then (some (Ai.1, true)) else (spec_l12Search.l0 k2 l0 l1 a2 l3 (wrap64 (Ab + 1))))) else (none)) = some (r1, r2) := H; have Ck := Aside0.mk Bm; clear Bm
        by_cases Bu : Ah.length < 17592186044416
        ·rw [if_pos Bu] at H
         have LMc21 := Aside0.mk Bu; clear Bu; obtain ⟨Af, Aj⟩ : ∃ y_ : List Int, y_ = (Ah ++ [Ab]) := ⟨_, rfl⟩
         replace H : ((spec_l12Search.f k2 l0 l1 a2 Af).bind fun Ai => (if Ai.2 = true then (some (Ai.1, true)) else (spec_l12Search.l0 k2 l0 l1 a2 l3 (wrap64 (Ab + 1))))) = some (r1, r2) := by first | (rw [Aj]; with_reducible exact H) | (have H2_ := (Option.bind_some _ _).symm.trans H; rw [Aj]; with_reducible exact H2_) | (have H2_ := (Option.bind_some _ _).symm.trans H; with_reducible exact H2_) | with_reducible exact H | (rw [Aj]; exact H) | exact H
         have Az := Aside0.mk Aj; clear Aj; replace H := Option.bind_eq_some_iff.mp H; obtain ⟨⟨Ax, Bn⟩, Bo, H⟩ := H; replace H : (if Bn = true then (some (Ax, true)) else (spec_l12Search.l0 k2 l0 l1 a2 l3 (wrap64 (Ab + 1)))) = some (r1, r2) := H; have Cl := Aside0.mk Bo; clear Bo
         by_cases Bv : Bn = true
         ·subst Bv
          have H1 : (some (Ax, true)) = some (r1, r2) := by rw [if_pos rfl] at H; exact H
          clear H; have H := H1; clear H1
          simp only [Option.some.injEq, Prod.mk.injEq] at H
          obtain ⟨rfl, rfl⟩ := H
          go_wp2_with (first | ((with_reducible refine gate_callee (f := 83) rfl ?_); refine glE (some 42) Try.func83 #[.slice Al l3.length Am] ?_; (with_reducible refine (spec_l1Own.calls _ _ l3 Ah _ ?side1 ?side2 Ck.out).mono ?_); (case side1 => exact Z56); (case side2 => exact (Kd.R_reads' Aa.out).2.1); rintro e Cz ⟨Bc, rfl, An, hb⟩; refine ⟨_, rfl, ?_⟩; have Ad := aM (Kd.R_lower (Kd.R_new' (Kd.R_newM (M := fun k_ => (P3_ k_ ∨ w.heap.size ≤ k_)) An Z142 (fun k_ h_ => .inr h_)) (Kd.R_lt Z17)) (below_size Z0)); replace Aa := aM (Kd.R_elder' Z17 (Kd.R_base An) hb); replace HK := aM (Kept.below (S := (fun k_ => P3_ k_)) Z5 hb); replace HB := hbS Z0 hb; (try clear hb); (try clear An)) | ((with_reducible refine gate_builtin (b := .append) (xs := #[.tmp 42, .tmp 44]) rfl ?_); at_builtin; refine Kd.R_append (Kd.int .i64) (w0 := w0) w0.heap.size rfl (.tmp 42) (.tmp 44) 22 3 (.int .i64 0) 8 rfl Try.underlying22 info3 rfl (by decide) (by omega) Bc Ah Ab [.int .i64 Ab] (fun k_ => (P3_ k_ ∨ w.heap.size ≤ k_) ∧ nS k_ Al l3.length Am) (fun _ => False) rfl rfl ?aP (fun _ hk => hk.elim) ?aF ?aO ?aB ?aS ?aL ?_; (case aP => exact rfl); (case aB => exact Z0); (case aF => exact (fun k_ hk => ⟨(.inr (Nat.le_trans Z142 hk)), Kd.fresh' (Kd.R_lt Z17) k_ hk⟩)); (case aO => exact Z107); (case aS => exact (below_size Z0)); (case aL => have := LMc21.out; omega); intro Cd C0 ho hb hg hat; rw [← Az.out] at ho; replace Aa := aM (Kd.R_after (ok := (fun k_ => (P3_ k_ ∨ w.heap.size ≤ k_))) Z17 hg hat); replace HB := aM (hb); replace HK := aM (Kept.of_grown (S := (fun k_ => P3_ k_)) hg Z5 (fun k_ e_ => (Ad.out.1 k_ e_).1.1)); have Ac := aM (ho); clear Ad; clear ho hb hg hat; obtain ⟨Bd, Bf, Ce⟩ := Kd.R_slice Ac.out; subst Ce) | ((with_reducible refine gate_callee (f := 60) rfl ?_); refine glE (some 46) Try.func60 #[.slice A0 l0.length c0, .slice A1 l1.length c1, .int .i64 a2, .slice Bd Af.length Bf] ?_; (with_reducible refine (ih k2 Z135 _ _ l0 _ _ l1 a2 (fun k_ => some k_ = (.slice Bd Af.length Bf : Value).ownBlock) (.slice Bd Af.length Bf) Af Ax true w0 _ ?side1 ?side2 ?side3 ?side4 ?side5 ?side6 Cl.out).mono ?_); (case side1 => exact Z0); (case side2 => exact Kd.C_kept_call Bq.out Z5 (fun k_ hs_ => (fun e_ => (Ac.out.1 k_ e_.symm).1) hs_)); (case side3 => exact Br.out); (case side4 => exact Kd.C_kept_call Bs.out Z5 (fun k_ hs_ => (fun e_ => (Ac.out.1 k_ e_.symm).1) hs_)); (case side5 => exact Bt.out); (case side6 => exact Kd.R_tight rfl Ac.out); rintro e C1 ⟨Bg, rfl, An, hb, hkp⟩; refine ⟨_, rfl, ?_⟩; have Ba := aM (Kd.R_mono (ok' := fun k_ => (P3_ k_ ∨ w.heap.size ≤ k_) ∧ nS k_ Al l3.length Am) An (fun k_ hk_ => ⟨Or.elim hk_ (fun hs_ => (Ac.out.1 k_ (hs_).symm).1) (fun hn_ => (.inr (Nat.le_trans Z142 hn_))), Or.elim hk_ (fun hs_ => fun e_ => (((Aa.out).1 k_ e_.symm).2) hs_) (fun hn_ => (Kd.fresh' (Kd.R_lt Z17) k_ hn_))⟩)); replace Aa := aM (Kd.R_mono (ok' := fun k_ => (P3_ k_ ∨ w.heap.size ≤ k_) ∧ nV k_ Bg) (Kd.R_keptB (Aa.out) hkp (fun k_ hk_ hs_ => (hk_.2) hs_)) (fun k_ hk_ => ⟨hk_.1.1, fun e_ => Or.elim (An.1 k_ e_.symm) (fun hs_ => hk_.2.1 hs_) (fun hn_ => Nat.not_le.2 hk_.2.2 hn_)⟩)); replace HK := aM (Kept.then_ (S := (fun k_ => P3_ k_)) Z5 hkp (fun k_ hs_ => (fun e_ => (Ac.out.1 k_ e_.symm).1) hs_)); replace HB := aM (hb); clear Ac; (try clear hb); (try clear hkp); (try clear An)))
          go_ret2
          exact ⟨_, Z6, by (with_reducible repeat (first | apply Kd.R_alloc | apply Kd.R_drewN | apply Kd.R_drew)); exact Kd.R_mono Ba.out (fun _ hk => hk.1), Z0, Z5⟩
         ·replace Bv := Bool.eq_false_iff.mpr Bv
          subst Bv
          have H1 : (spec_l12Search.l0 k2 l0 l1 a2 l3 (wrap64 (Ab + 1))) = some (r1, r2) := by rw [if_neg (show ¬ (false = true) by decide)] at H; exact H
          clear H; have H := H1; clear H1; have H' := Aside0.mk H; clear H
          go_wp2_with (first | ((with_reducible refine gate_callee (f := 83) rfl ?_); refine glE (some 42) Try.func83 #[.slice Al l3.length Am] ?_; (with_reducible refine (spec_l1Own.calls _ _ l3 Ah _ ?side1 ?side2 Ck.out).mono ?_); (case side1 => exact Z56); (case side2 => exact (Kd.R_reads' Aa.out).2.1); rintro e C3 ⟨Bc, rfl, An, hb⟩; refine ⟨_, rfl, ?_⟩; have Ad := aM (Kd.R_lower (Kd.R_new' (Kd.R_newM (M := fun k_ => (P3_ k_ ∨ w.heap.size ≤ k_)) An Z142 (fun k_ h_ => .inr h_)) (Kd.R_lt Z17)) (below_size Z0)); replace Aa := aM (Kd.R_elder' Z17 (Kd.R_base An) hb); replace HK := aM (Kept.below (S := (fun k_ => P3_ k_)) Z5 hb); replace HB := hbS Z0 hb; (try clear hb); (try clear An)) | ((with_reducible refine gate_builtin (b := .append) (xs := #[.tmp 42, .tmp 44]) rfl ?_); at_builtin; refine Kd.R_append (Kd.int .i64) (w0 := w0) w0.heap.size rfl (.tmp 42) (.tmp 44) 22 3 (.int .i64 0) 8 rfl Try.underlying22 info3 rfl (by decide) (by omega) Bc Ah Ab [.int .i64 Ab] (fun k_ => (P3_ k_ ∨ w.heap.size ≤ k_) ∧ nS k_ Al l3.length Am) (fun _ => False) rfl rfl ?aP (fun _ hk => hk.elim) ?aF ?aO ?aB ?aS ?aL ?_; (case aP => exact rfl); (case aB => exact Z0); (case aF => exact (fun k_ hk => ⟨(.inr (Nat.le_trans Z142 hk)), Kd.fresh' (Kd.R_lt Z17) k_ hk⟩)); (case aO => exact Z107); (case aS => exact (below_size Z0)); (case aL => have := LMc21.out; omega); intro Cd C4 ho hb hg hat; rw [← Az.out] at ho; replace Aa := aM (Kd.R_after (ok := (fun k_ => (P3_ k_ ∨ w.heap.size ≤ k_))) Z17 hg hat); replace HB := aM (hb); replace HK := aM (Kept.of_grown (S := (fun k_ => P3_ k_)) hg Z5 (fun k_ e_ => (Ad.out.1 k_ e_).1.1)); have Ac := aM (ho); clear Ad; clear ho hb hg hat; obtain ⟨Bh, Bi, Cf⟩ := Kd.R_slice Ac.out; subst Cf) | ((with_reducible refine gate_callee (f := 60) rfl ?_); refine glE (some 46) Try.func60 #[.slice A0 l0.length c0, .slice A1 l1.length c1, .int .i64 a2, .slice Bh Af.length Bi] ?_; (with_reducible refine (ih k2 Z135 _ _ l0 _ _ l1 a2 (fun k_ => some k_ = (.slice Bh Af.length Bi : Value).ownBlock) (.slice Bh Af.length Bi) Af Ax false w0 _ ?side1 ?side2 ?side3 ?side4 ?side5 ?side6 Cl.out).mono ?_); (case side1 => exact Z0); (case side2 => exact Kd.C_kept_call Bq.out Z5 (fun k_ hs_ => (fun e_ => (Ac.out.1 k_ e_.symm).1) hs_)); (case side3 => exact Br.out); (case side4 => exact Kd.C_kept_call Bs.out Z5 (fun k_ hs_ => (fun e_ => (Ac.out.1 k_ e_.symm).1) hs_)); (case side5 => exact Bt.out); (case side6 => exact Kd.R_tight rfl Ac.out); rintro e C5 ⟨Bg, rfl, An, hb, hkp⟩; refine ⟨_, rfl, ?_⟩; have Ba := aM (Kd.R_mono (ok' := fun k_ => (P3_ k_ ∨ w.heap.size ≤ k_) ∧ nS k_ Al l3.length Am) An (fun k_ hk_ => ⟨Or.elim hk_ (fun hs_ => (Ac.out.1 k_ (hs_).symm).1) (fun hn_ => (.inr (Nat.le_trans Z142 hn_))), Or.elim hk_ (fun hs_ => fun e_ => (((Aa.out).1 k_ e_.symm).2) hs_) (fun hn_ => (Kd.fresh' (Kd.R_lt Z17) k_ hn_))⟩)); replace Aa := aM (Kd.R_mono (ok' := fun k_ => (P3_ k_ ∨ w.heap.size ≤ k_) ∧ nV k_ Bg) (Kd.R_keptB (Aa.out) hkp (fun k_ hk_ hs_ => (hk_.2) hs_)) (fun k_ hk_ => ⟨hk_.1.1, fun e_ => Or.elim (An.1 k_ e_.symm) (fun hs_ => hk_.2.1 hs_) (fun hn_ => Nat.not_le.2 hk_.2.2 hn_)⟩)); replace HK := aM (Kept.then_ (S := (fun k_ => P3_ k_)) Z5 hkp (fun k_ hs_ => (fun e_ => (Ac.out.1 k_ e_.symm).1) hs_)); replace HB := aM (hb); clear Ac; (try clear hb); (try clear hkp); (try clear An)))
          go_roundg k2
          case measure => have := HJ4.out; have := HK2.out; omega
          case rel => exact ⟨(wrap64 (Ab + 1)), Z7, H', ⟨Z135⟩, ⟨by (with_reducible repeat (first | apply Kd.R_alloc | apply Kd.R_drewN | apply Kd.R_drew)); exact Kd.R_mono Aa.out (fun _ hk => hk.1)⟩, ⟨Z5⟩, ⟨Z0⟩⟩
        ·rw [if_neg Bu] at H
         exact absurd H (by simp)
       ·rw [if_neg Bj] at H
        have c19b0 : decide (Ab < (l1.length : Int)) = false := decide_eq_false Bj; clear Bj; obtain ⟨Cg, Ak⟩ : ∃ y_ : List Int, y_ = (([] : List Int)) := ⟨_, rfl⟩
        replace H : (some (Cg, false)) = some (r1, r2) := by first | (rw [Ak]; with_reducible exact H) | (have H2_ := (Option.bind_some _ _).symm.trans H; rw [Ak]; with_reducible exact H2_) | (have H2_ := (Option.bind_some _ _).symm.trans H; with_reducible exact H2_) | with_reducible exact H | (rw [Ak]; exact H) | exact H
        have Bb := Aside0.mk Ak; clear Ak
        simp only [Option.some.injEq, Prod.mk.injEq] at H
        obtain ⟨rfl, rfl⟩ := H
        go_wp2_with (first | ((with_reducible refine gate_dst (N := 51) rfl ?_); refine Kd.R_lit (Kd.int .i64) _ 3 ?hg (N := 51) ?hd (xs := ([] : List Int)) (inner := []) (ok := fun _ => True) (okp := fun _ => True) ?hr ?hp (fun _ hk => hk) trivial (Below.refl _ _) (Nat.le_refl _) (by simp) ?_; (case hd => rfl); (case hg => rfl); (case hr => first | (go_simp; done) | (go_simp; rfl)); (case hp => exact (Reps.none _ _)); intro Cu C6 Ar hb hg_ hnew_; clear hg_ hnew_; (first | rw [← Bb.out] at Ar | (simp only [Int.reduceToNat] at Ar; rw [← Bb.out] at Ar)); have Bp := aM (Kd.R_lower (Kd.R_new' (Kd.R_newM (M := fun k_ => (P3_ k_ ∨ w.heap.size ≤ k_)) Ar Z142 (fun k_ h_ => .inr h_)) (Kd.R_lt Z17)) (below_size Z0)); replace Aa := aM (Kd.R_elder' Z17 (Kd.R_base Ar) hb); replace HK := aM (Kept.below (S := (fun k_ => P3_ k_)) Z5 hb); replace HB := hbS Z0 hb; clear hb Ar))
        go_ret2
        exact ⟨_, Z6, by (with_reducible repeat (first | apply Kd.R_alloc | apply Kd.R_drewN | apply Kd.R_drew)); exact Kd.R_mono Bp.out (fun _ hk => hk.1.1), Z0, Z5⟩
def spec_FirstAssignment.j0 : Nat → Int → List Int → Bool → Int → Int → List Int → Option (List Int × Bool)
 | 0, _, _, _, _, _, _ => none
 | k + 1, x1, x2, x21, x254000, x254001, x254002 => if x21 = true then (some ((([] : List Int)), false)) else ((spec_l12Color.f k x254000 x254001 x254002 x1).bind fun t261 => ((spec_l12Search.f k t261 x2 (x2.length : Int) (([] : List Int))).bind fun bt267 => (some (bt267.1, bt267.2))))
def spec_FirstAssignment.f (k : Nat) (a0_0 : Int) (a0_1 : Int) (l0_2 : List Int) (a1 : Int) (l2 : List Int) : Option (List Int × Bool) := (spec_l12Asked.f k a0_0 a0_1 l0_2 a1 l2).bind fun t254 => (if t254 = true then ((spec_l12Color.f k a0_0 a0_1 l0_2 a1).bind fun t255 => (spec_FirstAssignment.j0 k a1 l2 (decide ((t255.length : Int) > 8)) a0_0 a0_1 l0_2)) else (spec_FirstAssignment.j0 k a1 l2 true a0_0 a0_1 l0_2))
theorem spec_FirstAssignment.calls (k : Nat) (Ad : Int) (Ae : Int) (Am : Option Addr) (An : Nat) (Ab : List Int) (a1 : Int) (A2 : Option Addr) (c2 : Nat) (l2 : List Int) (r1 : List Int) (r2 : Bool) (w : World) (Bm : Kd.C (Kd.int .i64) w Am Ab.length Ab) (Bn : Ab.length ≤ An) (Ct : Kd.C (Kd.int .i64) w A2 l2.length l2) (Cu : l2.length ≤ c2) (h : spec_FirstAssignment.f k Ad Ae Ab a1 l2 = some (r1, r2)) :
  Calls Try.prog 32 #[.agg #[.int .i64 Ad, .int .i64 Ae, .slice Am Ab.length An], .int .i64 a1, .slice A2 l2.length c2] w fun e w' => ∃ v0_ : Value, e = .returned (.tuple #[v0_, .bool r2]) ∧ Kd.R (Kd.int .i64) 3 w' w.heap.size (fun _ => True) v0_ r1 ∧ Below w.heap.size w w' := by
 have hu28 := Try.underlying28; have Ao := Aside0.mk Bm; have Ap := Aside0.mk Bn; clear Bm Bn; have Cl := Aside0.mk Ct; have Cm := Aside0.mk Cu; clear Ct Cu; have HB := aM (Below.refl w.heap.size w); have H : ((spec_l12Asked.f k Ad Ae Ab a1 l2).bind fun Ax => (if Ax = true then ((spec_l12Color.f k Ad Ae Ab a1).bind fun Ah => (spec_FirstAssignment.j0 k a1 l2 (decide ((Ah.length : Int) > 8)) Ad Ae Ab)) else (spec_FirstAssignment.j0 k a1 l2 true Ad Ae Ab))) = some (r1, r2) := h; clear h; have Cn := Aside0.mk H; clear H
 go_enter Try.func32, Try.ntmps32
 go_upto_region 1 with (first | ((with_reducible refine gate_dst (N := 3) rfl ?_); (try (refine gate_guard (by rfl) ?_; dsimp only)); refine bxE 3 #[.int .i64 Ad, .int .i64 Ae, .slice Am Ab.length An] 28 ?_; intro B0 hg w5 hbox hb; have Aa := aM (hbox); have Cv := gwS hg Z0; have Ac := gwS hg Z0; replace HB := hbS Z0 hb; clear hb hbox hg))
 (try simp only [Act.put, List.setIfInBounds_toArray, List.set_cons_zero, List.set_cons_succ])
 go_cut [21] (fun Cy wc => ∃ (kq : Nat) (Aq : Bool), Cy = .bool Aq ∧ Aside0 (spec_FirstAssignment.j0 kq a1 l2 Aq Ad Ae Ab = some (r1, r2)) ∧ Aside0 (kq ≤ k) ∧ Aside0 (wc.heap[B0]? = some (.cells #[.int .i64 Ad, .int .i64 Ae, (.slice Am Ab.length An)] 28 (0, 0))) ∧ Aside0 (Below w.heap.size w wc))
 case first =>
  have H := Cn.out; clear Cn; replace H := Option.bind_eq_some_iff.mp H; obtain ⟨Ax, Cw, H⟩ := H; replace H : (if Ax = true then ((spec_l12Color.f k Ad Ae Ab a1).bind fun Ah => (spec_FirstAssignment.j0 k a1 l2 (decide ((Ah.length : Int) > 8)) Ad Ae Ab)) else (spec_FirstAssignment.j0 k a1 l2 true Ad Ae Ab)) = some (r1, r2) := H; have A6 := Aside0.mk Cw; clear Cw
  by_cases c7 : Ax = true
  ·subst c7
   have H1 : ((spec_l12Color.f k Ad Ae Ab a1).bind fun Ah => (spec_FirstAssignment.j0 k a1 l2 (decide ((Ah.length : Int) > 8)) Ad Ae Ab)) = some (r1, r2) := by rw [if_pos rfl] at H; exact H
   clear H; have H := H1; clear H1; replace H := Option.bind_eq_some_iff.mp H; obtain ⟨Ah, Cx, H⟩ := H; replace H : (spec_FirstAssignment.j0 k a1 l2 (decide ((Ah.length : Int) > 8)) Ad Ae Ab) = some (r1, r2) := H; have A8 := Aside0.mk Cx; clear Cx; have H' := Aside0.mk H; clear H; obtain ⟨Bq, Br, Bs⟩ := bz3 Aa; obtain ⟨Bt, Bu, Bv⟩ := fz3 Aa
   go_wp2_with (first | ((with_reducible refine gate_callee (f := 55) rfl ?_); refine glE (some 13) Try.func55 #[.agg #[.int .i64 Ad, .int .i64 Ae, .slice Am Ab.length An], .int .i64 a1, .slice A2 l2.length c2] ?_; (with_reducible refine (spec_l12Asked.calls k Ad Ae _ _ Ab a1 _ _ l2 true _ ?side1 ?side2 ?side3 ?side4 A6.out).mono ?_); (case side1 => exact Z43); (case side2 => exact Ap.out); (case side3 => exact Z77); (case side4 => exact Cm.out); rintro e C8 ⟨rfl, hb⟩; refine ⟨_, rfl, ?_⟩; replace Aa := bkB Aa hb; replace HB := hbS Z1 hb; (try clear hb); obtain ⟨Ay, Az, Ba⟩ := bz3 Aa; obtain ⟨Bb, Bc, Bd⟩ := fz3 Aa) | (go_at_call 52; (with_reducible refine (spec_l12Color.calls k Ad Ae _ _ Ab a1 Ah _ ?side1 ?side2 A8.out).mono ?_); (case side1 => exact Z43); (case side2 => exact Ap.out); rintro e C9 ⟨Cz, rfl, Bf, hb⟩; have B2 := aM (Kd.R_lower Bf (below_size Z1)); replace Aa := bkB Aa hb; replace HB := hbS Z1 hb; (try clear hb); (try clear Bf); obtain ⟨C0, C1, Co⟩ := Kd.R_slice B2.out; subst Co))
   go_meet
   case rel => exact ⟨_, (decide ((Ah.length : Int) > 8)), Z7, H', ⟨Z103⟩, ⟨Z14⟩, ⟨Z1⟩⟩
  ·replace c7 := Bool.eq_false_iff.mpr c7
   subst c7
   have H1 : (spec_FirstAssignment.j0 k a1 l2 true Ad Ae Ab) = some (r1, r2) := by rw [if_neg (show ¬ (false = true) by decide)] at H; exact H
   clear H; have H := H1; clear H1; have H' := Aside0.mk H; clear H; obtain ⟨Bg, Bh, Bi⟩ := bz3 Aa; obtain ⟨Bj, Bk, Bl⟩ := fz3 Aa
   go_wp2_with (first | ((with_reducible refine gate_callee (f := 55) rfl ?_); refine glE (some 13) Try.func55 #[.agg #[.int .i64 Ad, .int .i64 Ae, .slice Am Ab.length An], .int .i64 a1, .slice A2 l2.length c2] ?_; (with_reducible refine (spec_l12Asked.calls k Ad Ae _ _ Ab a1 _ _ l2 false _ ?side1 ?side2 ?side3 ?side4 A6.out).mono ?_); (case side1 => exact Z43); (case side2 => exact Ap.out); (case side3 => exact Z77); (case side4 => exact Cm.out); rintro e Da ⟨rfl, hb⟩; refine ⟨_, rfl, ?_⟩; replace Aa := bkB Aa hb; replace HB := hbS Z1 hb; (try clear hb)))
   go_meet
   case rel => exact ⟨_, (true), Z7, H', ⟨Z103⟩, ⟨Z14⟩, ⟨Z1⟩⟩
 case rest =>
  clear Cn; (try clear c2); (try clear p2); (try clear c3); (try clear c5); (try clear c7); (try clear Ay); (try clear Az); (try clear Ba); (try clear Bg); (try clear Bh); (try clear Bi); (try clear Bq); (try clear Br); (try clear Bs); (try clear Bb); (try clear Bc); (try clear Bd); (try clear Bj); (try clear Bk); (try clear Bl); (try clear Bt); (try clear Bu); (try clear Bv); obtain ⟨kq, Aq, rfl, HA, HJ3, Aa, HB⟩ := hcut; cases kq with
  | zero => exact absurd HA.out (by simp [spec_FirstAssignment.j0])
  | succ Bz =>
   have H := HA.out; clear HA
   simp only [spec_FirstAssignment.j0] at H
   by_cases Ce : Aq = true
   ·subst Ce
    have H1 : (some ((([] : List Int)), false)) = some (r1, r2) := by rw [if_pos rfl] at H; exact H
    clear H; have H := H1; clear H1; obtain ⟨Cp, Ai⟩ : ∃ y_ : List Int, y_ = (([] : List Int)) := ⟨_, rfl⟩
    replace H : (some (Cp, false)) = some (r1, r2) := by first | (rw [Ai]; with_reducible exact H) | (have H2_ := (Option.bind_some _ _).symm.trans H; rw [Ai]; with_reducible exact H2_) | (have H2_ := (Option.bind_some _ _).symm.trans H; with_reducible exact H2_) | with_reducible exact H | (rw [Ai]; exact H) | exact H
    have Bo := Aside0.mk Ai; clear Ai
    simp only [Option.some.injEq, Prod.mk.injEq] at H
    obtain ⟨rfl, rfl⟩ := H
    go_wp2_with (first | ((with_reducible refine gate_dst (N := 22) rfl ?_); (try (refine gate_guard (by rfl) ?_; dsimp only)); refine Kd.R_lit (Kd.int .i64) _ 3 ?hg (N := 22) ?hd (xs := ([] : List Int)) (inner := []) (ok := fun _ => True) (okp := fun _ => True) ?hr ?hp (fun _ hk => hk) trivial (Below.refl _ _) (Nat.le_refl _) (by simp) ?_; (case hd => rfl); (case hg => rfl); (case hr => first | (go_simp; done) | (go_simp; rfl)); (case hp => exact (Reps.none _ _)); intro C3 Db Au hb hg_ hnew_; clear hg_ hnew_; (first | rw [← Bo.out] at Au | (simp only [Int.reduceToNat] at Au; rw [← Bo.out] at Au)); have B4 := aM (Kd.R_lower Au (below_size Z1)); replace Aa := bkB Aa hb; replace HB := hbS Z1 hb; clear hb Au))
    go_ret2
    exact ⟨_, Z6, by (with_reducible repeat (first | apply Kd.R_alloc | apply Kd.R_drewN | apply Kd.R_drew)); exact B4.out, Z1⟩
   ·replace Ce := Bool.eq_false_iff.mpr Ce
    subst Ce
    have H1 : ((spec_l12Color.f Bz Ad Ae Ab a1).bind fun Aj => ((spec_l12Search.f Bz Aj l2 (l2.length : Int) (([] : List Int))).bind fun Ag => (some (Ag.1, Ag.2)))) = some (r1, r2) := by rw [if_neg (show ¬ (false = true) by decide)] at H; exact H
    clear H; have H := H1; clear H1; replace H := Option.bind_eq_some_iff.mp H; obtain ⟨Aj, B5, H⟩ := H; replace H : ((spec_l12Search.f Bz Aj l2 (l2.length : Int) (([] : List Int))).bind fun Ag => (some (Ag.1, Ag.2))) = some (r1, r2) := H; have C4 := Aside0.mk B5; clear B5; obtain ⟨Aw, Ak⟩ : ∃ y_ : List Int, y_ = (([] : List Int)) := ⟨_, rfl⟩
    replace H : ((spec_l12Search.f Bz Aj l2 (l2.length : Int) Aw).bind fun Ag => (some (Ag.1, Ag.2))) = some (r1, r2) := by first | (rw [Ak]; with_reducible exact H) | (have H2_ := (Option.bind_some _ _).symm.trans H; rw [Ak]; with_reducible exact H2_) | (have H2_ := (Option.bind_some _ _).symm.trans H; with_reducible exact H2_) | with_reducible exact H | (rw [Ak]; exact H) | exact H
    have Bp := Aside0.mk Ak; clear Ak; replace H := Option.bind_eq_some_iff.mp H; obtain ⟨⟨B6, B7⟩, Ca, H⟩ := H; replace H : (some (B6, B7)) = some (r1, r2) := H; have C5 := Aside0.mk Ca; clear Ca
    simp only [Option.some.injEq, Prod.mk.injEq] at H
    obtain ⟨rfl, rfl⟩ := H; obtain ⟨Cf, Cg, Ch⟩ := bz3 Aa; obtain ⟨Ci, Cj, Ck⟩ := fz3 Aa
    go_wp2_with (first | ((with_reducible refine gate_callee (f := 52) rfl ?_); refine glE (some 26) Try.func52 #[.agg #[.int .i64 Ad, .int .i64 Ae, .slice Am Ab.length An], .int .i64 a1] ?_; (with_reducible refine (spec_l12Color.calls Bz Ad Ae _ _ Ab a1 Aj _ ?side1 ?side2 C4.out).mono ?_); (case side1 => exact Z43); (case side2 => exact Ap.out); rintro e Dc ⟨C6, rfl, Bf, hb⟩; refine ⟨_, rfl, ?_⟩; have Af := aM (Kd.R_lower Bf (below_size Z1)); replace Aa := bkB Aa hb; replace HB := hbS Z1 hb; (try clear hb); (try clear Bf)) | ((with_reducible refine gate_dst (N := 30) rfl ?_); (try (refine gate_guard (by rfl) ?_; dsimp only)); refine Kd.R_lit (Kd.int .i64) _ 3 ?hg (N := 30) ?hd (xs := ([] : List Int)) (inner := []) (ok := fun _ => True) (okp := fun _ => True) ?hr ?hp (fun _ hk => hk) trivial (Below.refl _ _) (Nat.le_refl _) (by simp) ?_; (case hd => rfl); (case hg => rfl); (case hr => first | (go_simp; done) | (go_simp; rfl)); (case hp => exact (Reps.none _ _)); intro C7 Dd Ar hb hg_ hnew_; clear hg_ hnew_; (first | rw [← Bp.out] at Ar | (simp only [Int.reduceToNat] at Ar; rw [← Bp.out] at Ar)); have Al := aM (Kd.R_lower (Kd.R_new' Ar (Kd.R_lt Z57)) (below_size Z1)); replace Af := aM (Kd.R_elder' Z57 (Kd.R_base Ar) hb); replace Aa := bkB Aa hb; replace HB := hbS Z1 hb; clear hb Ar; obtain ⟨Cb, Cc, Cq⟩ := Kd.R_slice Af.out; subst Cq; obtain ⟨Bw, Bx, Cr⟩ := Kd.R_slice Al.out; subst Cr) | ((with_reducible refine gate_callee (f := 60) rfl ?_); refine glE (some 31) Try.func60 #[.slice Cb Aj.length Cc, .slice A2 l2.length c2, .int .i64 (l2.length : Int), .slice Bw Aw.length Bx] ?_; (with_reducible refine (spec_l12Search.calls Bz _ _ Aj _ _ l2 (l2.length : Int) (fun k_ => some k_ = (.slice Bw Aw.length Bx : Value).ownBlock) (.slice Bw Aw.length Bx) Aw B6 B7 w _ ?side1 ?side2 ?side3 ?side4 ?side5 ?side6 C5.out).mono ?_); (case side1 => exact Z1); (case side2 => exact Kd.C_kept_own (Af.out) (fun k_ hk_ hs_ => (hk_.2) hs_)); (case side3 => exact (Kd.R_reads' Af.out).2.1); (case side4 => exact Kd.C_kept_came (Kd.heap_int .i64) Cl.out Z1 (fun k_ hs_ => (fun e_ => Kd.R_base Al.out k_ e_.symm) hs_)); (case side5 => exact Cm.out); (case side6 => exact Kd.R_tight rfl Al.out); rintro e De ⟨Cs, rfl, Bf, hb, hkp⟩; refine ⟨_, rfl, ?_⟩; replace Aa := aM (blk_kept Z14 hkp (fun hs_ => (fun e_ => (Kd.R_ne Al.out Aa.out (by decide)) e_) hs_)); have Cd := aM (Kd.R_mono (ok' := fun k_ => nS k_ Cb Aj.length Cc) Bf (fun k_ hk_ => Or.elim hk_ (fun hs_ => fun e_ => (((Af.out).1 k_ e_.symm).2) hs_) (fun hn_ => (Kd.fresh' (Kd.R_lt Z57) k_ hn_)))); replace Af := aM (Kd.R_mono (ok' := fun k_ => nV k_ Cs) (Kd.R_keptB (Af.out) hkp (fun k_ hk_ hs_ => (hk_.2) hs_)) (fun k_ hk_ => fun e_ => Or.elim (Bf.1 k_ e_.symm) (fun hs_ => hk_.2.1 hs_) (fun hn_ => Nat.not_le.2 hk_.2.2 hn_))); replace HB := aM (hb); clear Al; (try clear hb); (try clear hkp); (try clear Bf)))
    go_ret2
    exact ⟨_, Z6, by (with_reducible repeat (first | apply Kd.R_alloc | apply Kd.R_drewN | apply Kd.R_drew)); exact Kd.R_mono Cd.out (fun _ hk => trivial), Z1⟩
def impl_in.f (a0 : Int) (a1 : Int) (a2 : Int) : Option (Bool) := if a0 ≥ a1 then (some (decide (a0 ≤ a2))) else (some false)
theorem impl_in.calls (a0 : Int) (a1 : Int) (a2 : Int) (r : Bool) (w : World) (h : impl_in.f a0 a1 a2 = some r) :
  Calls Try.prog 59 #[.int .i64 a0, .int .i64 a1, .int .i64 a2] w fun e w' => e = .returned (.bool r) ∧ Drawn0 w w' := by
 have H : (if a0 ≥ a1 then (some (decide (a0 ≤ a2))) else (some false)) = some r := h; clear h
 by_cases c4 : a0 ≥ a1
 ·rw [if_pos c4] at H
  have c4b0 : decide (a1 ≤ a0) = true := decide_eq_true c4; clear c4; obtain rfl := Option.some.inj H
  go_enter Try.func59, Try.ntmps59
  go_wp2
  go_ret
  exact ⟨Z7, Z23⟩
 ·rw [if_neg c4] at H
  have c4b0 : decide (a1 ≤ a0) = false := decide_eq_false c4; clear c4; obtain rfl := Option.some.inj H
  go_enter Try.func59, Try.ntmps59
  go_wp2
  go_ret
  exact ⟨Z7, Z23⟩
theorem impl_in.eq (a b c : Int) : impl_in.f a b c = some (rng a b c) := by
 unfold impl_in.f rng; by_cases h : b ≤ a <;> simp [h]
def impl_Chart_hasPlace.f (a0_0 : Int) (a0_1 : Int) (l0_2 : List Int) (a1 : Int) (a2 : Int) : Option (Bool) := (impl_in.f a1 0 (wrap64 (a0_1 - 1))).bind fun t272 => (if t272 = true then ((impl_in.f a2 0 (wrap64 (a0_0 - 1))).bind fun t273 => (some t273)) else (some false))
theorem impl_Chart_hasPlace.calls (Ab : Int) (Aa : Int) (Ag : Option Addr) (Ah : Nat) (Ae : List Int) (a1 : Int) (a2 : Int) (r : Bool) (w : World) (Aj : Kd.C (Kd.int .i64) w Ag Ae.length Ae) (Ak : Ae.length ≤ Ah) (h : impl_Chart_hasPlace.f Ab Aa Ae a1 a2 = some r) :
  Calls Try.prog 84 #[.agg #[.int .i64 Ab, .int .i64 Aa, .slice Ag Ae.length Ah], .int .i64 a1, .int .i64 a2] w fun e w' => e = .returned (.bool r) ∧ Below w.heap.size w w' := by
 have hu28 := Try.underlying28; have Bc := Aside0.mk Aj; have Bd := Aside0.mk Ak; clear Aj Ak; have HB := aM (Below.refl w.heap.size w); have H : ((impl_in.f a1 0 (wrap64 (Aa - 1))).bind fun Ai => (if Ai = true then ((impl_in.f a2 0 (wrap64 (Ab - 1))).bind fun Ac => (some Ac)) else (some false))) = some r := h; clear h; replace H := Option.bind_eq_some_iff.mp H; obtain ⟨Ai, Bf, H⟩ := H; replace H : (if Ai = true then ((impl_in.f a2 0 (wrap64 (Ab - 1))).bind fun Ac => (some Ac)) else (some false)) = some r := H; have A4 := Aside0.mk Bf; clear Bf
 by_cases c5 : Ai = true
 ·subst c5
  have H1 : ((impl_in.f a2 0 (wrap64 (Ab - 1))).bind fun Ac => (some Ac)) = some r := by rw [if_pos rfl] at H; exact H
  clear H; have H := H1; clear H1; replace H := Option.bind_eq_some_iff.mp H; obtain ⟨Ac, Bg, H⟩ := H; replace H : (some Ac) = some r := H; have A6 := Aside0.mk Bg; clear Bg; obtain rfl := Option.some.inj H
  go_enter Try.func84, Try.ntmps84
  go_wp2_with (first | ((with_reducible refine gate_dst (N := 3) rfl ?_); refine bxE 3 #[.int .i64 Ab, .int .i64 Aa, .slice Ag Ae.length Ah] 28 ?_; intro Al hg w7 hbox hb; have Ad := aM (hbox); have Am := gwS hg Z0; have Af := gwS hg Z0; replace HB := hbS Z0 hb; clear hb hbox hg; obtain ⟨Aw, Ax, Ay⟩ := bz3 Ad; obtain ⟨Az, Ba, Bb⟩ := fz3 Ad) | ((with_reducible refine gate_callee (f := 59) rfl ?_); refine glE (some 11) Try.func59 #[.int .i64 a1, .int .i64 0, .int .i64 (wrap64 (Aa - 1))] ?_; (with_reducible refine (impl_in.calls a1 0 (wrap64 (Aa - 1)) true _ A4.out).mono ?_); rintro e w' ⟨rfl, ⟨nd, rfl⟩⟩; refine ⟨_, rfl, ?_⟩) | (go_at_call 59; (with_reducible refine (impl_in.calls a2 0 (wrap64 (Ab - 1)) Ac _ A6.out).mono ?_); rintro e w' ⟨rfl, ⟨nd, rfl⟩⟩))
  go_ret
  exact ⟨Z6, Z2⟩
 ·replace c5 := Bool.eq_false_iff.mpr c5
  subst c5
  have H1 : (some false) = some r := by rw [if_neg (show ¬ (false = true) by decide)] at H; exact H
  clear H; have H := H1; clear H1; obtain rfl := Option.some.inj H
  go_enter Try.func84, Try.ntmps84
  go_wp2_with (first | ((with_reducible refine gate_dst (N := 3) rfl ?_); refine bxE 3 #[.int .i64 Ab, .int .i64 Aa, .slice Ag Ae.length Ah] 28 ?_; intro Al hg w9 hbox hb; have Ad := aM (hbox); have Am := gwS hg Z0; have Af := gwS hg Z0; replace HB := hbS Z0 hb; clear hb hbox hg; obtain ⟨An, Ao, Ap⟩ := bz3 Ad; obtain ⟨Aq, Ar, Au⟩ := fz3 Ad) | ((with_reducible refine gate_callee (f := 59) rfl ?_); refine glE (some 11) Try.func59 #[.int .i64 a1, .int .i64 0, .int .i64 (wrap64 (Aa - 1))] ?_; (with_reducible refine (impl_in.calls a1 0 (wrap64 (Aa - 1)) false _ A4.out).mono ?_); rintro e w' ⟨rfl, ⟨nd, rfl⟩⟩; refine ⟨_, rfl, ?_⟩))
  go_ret
  exact ⟨Z6, Z2⟩
end Go.Proofs.Ytaadbpibmlnncaa.H
