-- by wip/pack.py of this repo
import Derived.Test.YtnkecgldapagcaaZ06Hx0
import Derived.Test.YtnkecgldapagcaaZ06Hx3
import Derived.Test.YtnkecgldapagcaaZ06Hx4
import Derived.Test.YtnkecgldapagcaaZ06Hx6
import Derived.Test.YtnkecgldapagcaaZ06WLast
import Derived.Test.YtnkecgldapagcaaZ06WMore
import Derived.Test.YtnkecgldapagcaaZ06WTab
import Derived.Test.YtnkecgldapagcaaZ06WWords
import Derived.Test.YtnkecgldapagcaaZ06Short
namespace Go.Proofs.Ytnkecgldapagcaa.H
open Go.RowKit Go.Proofs.YtnkecgldapagcaaW.PrintWords Go.Proofs.YtnkecgldapagcaaW.PrintLast Go.Proofs.YtnkecgldapagcaaW.PrintMore
attribute [local go_sem] max2_int min2_int max_two min_two max_three min_three max_four min_four
set_option maxHeartbeats 8000000
set_option maxRecDepth 100000
set_option linter.unusedVariables false
set_option linter.unusedSimpArgs false
def spec_BallsByColor.l0 : Nat → List Int → List Int → Int → Int → Int → Int → Int → Option (List Int × Bool)
 | 0, _, _, _, _, _, _, _ => none
 | k + 1, x6, x7, x9, x268000, x268001, x268002, x268003 => if x9 < (x7.length : Int) then (if 0 ≤ x9 then (if (wrap64 (1000 * x268003)) = 0 then (none) else (if x6.length < 17592186044416 then (spec_BallsByColor.l0 k (x6 ++ [wrap64 (Int.tdiv (wrap64 ((wrap64 ((rd x7 x9) + (wrap64 (1000 * x268003)))) - 1)) (wrap64 (1000 * x268003)))]) x7 (wrap64 (x9 + 1)) x268000 x268001 x268002 x268003) else (none))) else (none)) else (some (x6, true))
def spec_BallsByColor.f (k : Nat) (a0_0 : Int) (a0_1 : Int) (l0_2 : List Int) (a1_0 : Int) (a1_1 : Int) (a1_2 : Int) (a1_3 : Int) : Option (List Int × Bool) := (some (([] : List Int) : List Int)).bind fun y268 => ((spec_YarnByColor.f k a0_0 a0_1 l0_2 a1_0 a1_1 a1_2 a1_3).bind fun bt271 => (if bt271.2 = true then (spec_BallsByColor.l0 k y268 bt271.1 0 a1_0 a1_1 a1_2 a1_3) else (some (y268, false))))
def spec_BallsByColor.T8 : Bool × List (List Nat × List Nat) := (true, [([], []), ([], []), ([], []), ([1, 2], [1, 2]), ([3], [3]), ([], []), ([5], [5]), ([6], [6]), ([4, 7], [4, 7]), ([8], [8]), ([], []), ([10], [10]), ([11], [11]), ([9, 12], [9, 12]), ([13], [13]), ([0, 14], [0, 14]), ([15, 15, 0, 1, 2, 3, 4, 5, 6, 7, 8, 9, 10, 11, 12, 13, 14, 15], [0, 15])])
def spec_BallsByColor.B8 : List Nat := [0, 0, 0, 6, 14, 0, 32, 96, 254, 510, 0, 1024, 3072, 8190, 16382, 32767, 65535]
theorem spec_BallsByColor.tab8 : rtab .any (opsOf Try.f21 8) = spec_BallsByColor.T8 := by kernel_rfl
theorem spec_BallsByColor.bits8 : waitsOk spec_BallsByColor.T8.2 spec_BallsByColor.B8 = true := by kernel_rfl
theorem spec_BallsByColor.calls (k : Nat) (Ao : Int) (Ap : Int) (Av : Option Addr) (Aw : Nat) (Ak : List Int) (Af : Int) (Ag : Int) (Ah : Int) (Ad : Int) (r1 : List Int) (r2 : Bool) (w : World) (Bv : Kd.C (Kd.int .i64) w Av Ak.length Ak) (Bw : Ak.length ≤ Aw) (h : spec_BallsByColor.f k Ao Ap Ak Af Ag Ah Ad = some (r1, r2)) :
  Calls Try.prog 21 #[.agg #[.int .i64 Ao, .int .i64 Ap, .slice Av Ak.length Aw], .agg #[.int .i64 Af, .int .i64 Ag, .int .i64 Ah, .int .i64 Ad]] w fun e w' => ∃ v0_ : Value, e = .returned (.tuple #[v0_, .bool r2]) ∧ Kd.R (Kd.int .i64) 3 w' w.heap.size (fun _ => True) v0_ r1 ∧ Below w.heap.size w w' := by
 have hu30 := Try.underlying30; have hu32 := Try.underlying32; have Bx := Aside0.mk Bv; have Bz := Aside0.mk Bw; clear Bv Bw; have HB := aM (Below.refl w.heap.size w); have H : ((some (([] : List Int) : List Int)).bind fun Ar => ((spec_YarnByColor.f k Ao Ap Ak Af Ag Ah Ad).bind fun Ax => (if Ax.2 = true then (spec_BallsByColor.l0 k Ar Ax.1 0 Af Ag Ah Ad) else (some (Ar, false))))) = some (r1, r2) := h; clear h; obtain ⟨Ar, Ay⟩ : ∃ y_ : List Int, y_ = (([] : List Int)) := ⟨_, rfl⟩
 replace H : ((spec_YarnByColor.f k Ao Ap Ak Af Ag Ah Ad).bind fun Ax => (if Ax.2 = true then (spec_BallsByColor.l0 k Ar Ax.1 0 Af Ag Ah Ad) else (some (Ar, false)))) = some (r1, r2) := by first | (rw [Ay]; with_reducible exact H) | (have H2_ := (Option.bind_some _ _).symm.trans H; rw [Ay]; with_reducible exact H2_) | (have H2_ := (Option.bind_some _ _).symm.trans H; with_reducible exact H2_) | with_reducible exact H | (rw [Ay]; exact H) | exact H
 have Bb := Aside0.mk Ay; clear Ay; replace H := Option.bind_eq_some_iff.mp H; obtain ⟨⟨Aj, B9⟩, C1, H⟩ := H; replace H : (if B9 = true then (spec_BallsByColor.l0 k Ar Aj 0 Af Ag Ah Ad) else (some (Ar, false))) = some (r1, r2) := H; have A3 := Aside0.mk C1; clear C1
 by_cases c4 : B9 = true
 ·subst c4
  have H1 : (spec_BallsByColor.l0 k Ar Aj 0 Af Ag Ah Ad) = some (r1, r2) := by rw [if_pos rfl] at H; exact H
  clear H; have H := H1; clear H1; have H' := Aside0.mk H; clear H
  go_enter Try.func21, Try.ntmps21
  go_wp2_with (first | ((with_reducible refine gate_dst (N := 2) rfl ?_); refine bxE 2 #[.int .i64 Ao, .int .i64 Ap, .slice Av Ak.length Aw] 30 ?_; intro Bf hg w5 hbox hb; have Aa := aM (hbox); have Ca := gwS hg Z2; have Ac := gwS hg Z2; replace HB := hbS Z2 hb; clear hb hbox hg) | ((with_reducible refine gate_dst (N := 3) rfl ?_); refine bxE 3 #[.int .i64 Af, .int .i64 Ag, .int .i64 Ah, .int .i64 Ad] 32 ?_; intro Aq hg w6 hbox hb; have Ab := aM (hbox); have Cb := gwS hg Z54; have Ae := gwS hg Z54; replace HB := hbS Z54 hb; have Am := nbL hg Aa; have An := nbG hg Aa; replace Aa := bkB Aa hb; clear hb hbox hg) | ((with_reducible refine gate_dst (N := 10) rfl ?_); refine Kd.R_lit (Kd.int .i64) _ 3 ?hg (N := 10) ?hd (xs := ([] : List Int)) (inner := []) (ok := fun _ => True) (okp := fun _ => True) ?hr ?hp (fun _ hk => hk) trivial (Below.refl _ _) (Nat.le_refl _) (by simp) ?_; (case hd => rfl); (case hg => rfl); (case hr => first | (go_simp; done) | (go_simp; rfl)); (case hp => exact (Reps.none _ _)); intro Cx w7 Cc hb hg_ hnew_; clear hg_ hnew_; (first | rw [← Bb.out] at Cc | (simp only [Int.reduceToNat] at Cc; rw [← Bb.out] at Cc)); have Al := aM (Kd.R_lower Cc (below_size Z36)); replace Aa := bkB Aa hb; replace Ab := bkB Ab hb; replace HB := hbS Z36 hb; clear hb Cc; have C4 := Am.out; have C5 := An.out; obtain ⟨Bh, Bi, Bj⟩ := bz3 Aa; obtain ⟨Bk, Bl, Bm⟩ := fz3 Aa; obtain ⟨Bn, Bo, Bp, Bq⟩ := bz4 Ab; obtain ⟨Br, Bs, Bt, Bu⟩ := fz4 Ab) | ((with_reducible refine gate_callee (f := 12) rfl ?_); refine glE (some 14) Try.func12 #[.agg #[.int .i64 Ao, .int .i64 Ap, .slice Av Ak.length Aw], .agg #[.int .i64 Af, .int .i64 Ag, .int .i64 Ah, .int .i64 Ad]] ?_; (with_reducible refine (spec_YarnByColor.calls k Ao Ap _ _ Ak Af Ag Ah Ad Aj true _ ?side1 ?side2 A3.out).mono ?_); (case side1 => exact Z89); (case side2 => exact Bz.out); rintro e Da ⟨B1, rfl, B2, hb⟩; refine ⟨_, rfl, ?_⟩; have B0 := aM (Kd.R_lower (Kd.R_new' B2 (Kd.R_lt Z39)) (below_size Z36)); replace Al := aM (Kd.R_elder' Z39 (Kd.R_base B2) hb); replace Aa := bkB Aa hb; replace Ab := bkB Ab hb; replace HB := hbS Z36 hb; (try clear hb); (try clear B2)))
  go_loopg [6, 9] k (fun kq v6 v9 w' => ∃ (Bd : List Int) (Ai : Int), v9 = .int .i64 Ai ∧ Aside0 (spec_BallsByColor.l0 kq Bd Aj Ai Af Ag Ah Ad = some (r1, r2)) ∧ Aside0 (kq ≤ k) ∧ Aside0 (Kd.R (Kd.int .i64) 3 w' w.heap.size (fun k_ => nV k_ B1) v6 Bd) ∧ Aside0 (Kd.R (Kd.int .i64) 3 w' w.heap.size (fun k_ => nV k_ v6) B1 Aj) ∧ Aside0 (w'.heap[Bf]? = some (.cells #[.int .i64 Ao, .int .i64 Ap, (.slice Av Ak.length Aw)] 30 (0, 0))) ∧ Aside0 (w'.heap[Aq]? = some (.cells #[.int .i64 Af, .int .i64 Ag, .int .i64 Ah, .int .i64 Ad] 32 (0, 0))) ∧ Aside0 (Below w.heap.size w w'))
  case atStart => exact ⟨(Ar), (0), Z38, H', ⟨Nat.le_refl _⟩, ⟨by (with_reducible repeat (first | apply Kd.R_alloc | apply Kd.R_drewN | apply Kd.R_drew)); exact Kd.R_mono Al.out (fun _ hk => hk.2)⟩, ⟨by (with_reducible repeat (first | apply Kd.R_alloc | apply Kd.R_drewN | apply Kd.R_drew)); exact Kd.R_mono B0.out (fun _ hk => hk.2)⟩, ⟨Z44⟩, ⟨Z11⟩, ⟨Z36⟩⟩
  case round =>
   clear H'; (try clear c1); (try clear c2); (try clear p2); (try clear c4); (try clear c9); (try clear Db); (try clear Bh); (try clear Bi); (try clear Bj); (try clear Bn); (try clear Bo); (try clear Bp); (try clear Bq); (try clear Bk); (try clear Bl); (try clear Bm); (try clear Br); (try clear Bs); (try clear Bt); (try clear Bu); obtain ⟨Bd, Ai, rfl, HA, HK1, Az, Au, Aa, Ab, HB⟩ := hrel; cases gk with
   | zero => exact absurd HA.out (by simp [spec_BallsByColor.l0])
   | succ k1 =>
    have H := HA.out; clear HA
    simp only [spec_BallsByColor.l0] at H
    by_cases B7 : Ai < (Aj.length : Int)
    ·rw [if_pos B7] at H
     have c13b0 : decide (Ai < (Aj.length : Int)) = true := decide_eq_true B7; clear B7
     by_cases Cg : 0 ≤ Ai
     ·rw [if_pos Cg] at H
      have c14b0 : decide (0 ≤ Ai) = true := decide_eq_true Cg; clear Cg
      by_cases Ch : (wrap64 (1000 * Ad)) = 0
      ·rw [if_pos Ch] at H
       exact absurd H (by simp)
      ·rw [if_neg Ch] at H
       have c15b0 : ((wrap64 (1000 * Ad)) == 0) = false := beq_eq_false_iff_ne.mpr Ch; have c15b1 : ((wrap64 (1000 * Ad)) != 0) = true := bne_iff_ne.mpr Ch
       by_cases Ci : Bd.length < 17592186044416
       ·rw [if_pos Ci] at H
        have LMc16 := Aside0.mk Ci; clear Ci; obtain ⟨Cd, Ba⟩ : ∃ y_ : List Int, y_ = (Bd ++ [wrap64 (Int.tdiv (wrap64 ((wrap64 ((rd Aj Ai) + (wrap64 (1000 * Ad)))) - 1)) (wrap64 (1000 * Ad)))]) := ⟨_, rfl⟩
        replace H : (spec_BallsByColor.l0 k1 Cd Aj (wrap64 (Ai + 1)) Af Ag Ah Ad) = some (r1, r2) := by first | (rw [Ba]; with_reducible exact H) | (have H2_ := (Option.bind_some _ _).symm.trans H; rw [Ba]; with_reducible exact H2_) | (have H2_ := (Option.bind_some _ _).symm.trans H; with_reducible exact H2_) | with_reducible exact H | (rw [Ba]; exact H) | exact H
        have Ce := Aside0.mk Ba; clear Ba; have H' := Aside0.mk H; clear H; obtain ⟨C6, Cy, Cz⟩ := Kd.R_slice Au.out; subst Cz
        try go_wp2
        replace Az := aM (Kd.R_drew Az.out); replace Au := aM (Kd.R_drew Au.out); replace Aa := aM (blk_drew Aa.out); replace Ab := aM (blk_drew Ab.out); replace HB := aM (below_drew1 HB.out); have B3 : 0 ≤ (Ai : Int) := of_decide_eq_true Z30; have B5 : Ai < (Aj.length : Int) := of_decide_eq_true Z30; obtain ⟨ad275, e275, Bc⟩ := Kd.at_int (Kd.R_reads' Au.out).2.2 Ai B3 B5; cases e275; replace B3 := eq_true B3; replace B5 := eq_true B5; refine start_ (n := 17) (S := fun w' => w'.cell? ⟨Aq, 0, none⟩ = some (.int .i64 Af) ∧ w'.cell? ⟨Aq, 1, none⟩ = some (.int .i64 Ag) ∧ w'.cell? ⟨Aq, 2, none⟩ = some (.int .i64 Ah) ∧ w'.cell? ⟨Aq, 3, none⟩ = some (.int .i64 Ad) ∧ w'.cell? (ad275.add (Ai).toNat) = some (.int .i64 (rd Aj Ai))) (ds := [14, 15]) #[false, false, false, false, false, false, false, false, false, false, false, false, false, false, false, false, false] Z66 rfl rfl ⟨(blk_cell Ab.out 0).trans rfl, (blk_cell Ab.out 1).trans rfl, (blk_cell Ab.out 2).trans rfl, (blk_cell Ab.out 3).trans rfl, Bc⟩ (fun hHeld => ?_); refine with_tabW spec_BallsByColor.tab8 spec_BallsByColor.bits8 (fun HT_ HW_ => ?_)
        generalize wr.drew = Dc at Az Au Aa Ab HB Bc hHeld ⊢
        refine puR 0 26 #[true, false, false, false, false, false, false, false, false, false, false, false, false, false, false, false, false] HT_ rfl rfl ?_; refine puR 1 27 #[true, true, false, false, false, false, false, false, false, false, false, false, false, false, false, false, false] HT_ rfl rfl ?_; refine puR 2 28 #[true, true, true, false, false, false, false, false, false, false, false, false, false, false, false, false, false] HT_ rfl rfl ?_; refine puR 3 29 #[true, true, true, true, false, false, false, false, false, false, false, false, false, false, false, false, false] HT_ rfl rfl ?_; refine puR 5 31 #[true, true, true, true, false, true, false, false, false, false, false, false, false, false, false, false, false] HT_ rfl rfl ?_; refine puR 10 36 #[true, true, true, true, false, true, false, false, false, false, true, false, false, false, false, false, false] HT_ rfl rfl ?_; refine taR 4 30 #[true, true, true, true, true, true, false, false, false, false, true, false, false, false, false, false, false] HT_ HW_ hHeld rfl rfl ?_; refine taR 6 32 #[true, true, true, true, true, true, true, false, false, false, true, false, false, false, false, false, false] HT_ HW_ hHeld rfl rfl ?_; refine puR 7 33 #[true, true, true, true, true, true, true, true, false, false, true, false, false, false, false, false, false] HT_ rfl rfl ?_; refine puR 8 34 #[true, true, true, true, true, true, true, true, true, false, true, false, false, false, false, false, false] HT_ rfl rfl ?_; refine puR 9 35 #[true, true, true, true, true, true, true, true, true, true, true, false, false, false, false, false, false] HT_ rfl rfl ?_; refine taR 11 37 #[true, true, true, true, true, true, true, true, true, true, true, true, false, false, false, false, false] HT_ HW_ hHeld rfl rfl ?_; refine puR 12 38 #[true, true, true, true, true, true, true, true, true, true, true, true, true, false, false, false, false] HT_ rfl rfl ?_; refine puR 13 39 #[true, true, true, true, true, true, true, true, true, true, true, true, true, true, false, false, false] HT_ rfl rfl ?_; refine last_ (i := 14) (N := some 40) #[true, true, true, true, true, true, true, true, true, true, true, true, true, true, true, false, false] rfl rfl (one_of HT_.out Z66) (by decide) (fun K hK => ?_); refine value_ (w1 := ?_) (v := ?_) (by rfl) rfl ?_ ?_
        rotate_left 2
        ·go_simp
         constructor
         ·rfl
         ·rfl
        refine hK.out _ _ ?_; clear hK K; refine noR 40 ?_; refine last_ (i := 15) (N := some 41) #[true, true, true, true, true, true, true, true, true, true, true, true, true, true, true, true, false] rfl rfl (one_of HT_.out Z66) (by decide) (fun K hK => ?_); refine Kd.R_append_step (Kd.int .i64) (w0 := w) w.heap.size (by rfl) (.tmp 26) (.tmp 40) 22 3 (.int .i64 0) 8 rfl Try.underlying22 info3 rfl (by decide) (by omega) u6 Bd (wrap64 (Int.tdiv (wrap64 ((wrap64 ((rd Aj Ai) + (wrap64 (1000 * Ad)))) - 1)) (wrap64 (1000 * Ad)))) [.int .i64 (wrap64 (Int.tdiv (wrap64 ((wrap64 ((rd Aj Ai) + (wrap64 (1000 * Ad)))) - 1)) (wrap64 (1000 * Ad))))] (fun k_ => some k_ ≠ (.slice (some ad275) Aj.length Cy : Value).ownBlock) (fun _ => False) rfl rfl ?aP (fun _ hk => hk.elim) ?aF ?aO ?aB ?aS ?aL ?_; (case aP => exact rfl); (case aB => exact Z36); (case aF => exact (fun k_ hk => Kd.fresh' (Kd.R_lt Z114) k_ hk)); (case aO => exact Z85); (case aS => exact (below_size Z36)); (case aL => have := LMc16.out; omega); intro C7 Dd ho hb hg hat; rw [← Ce.out] at ho; replace Au := aM (Kd.R_after (ok := (fun _ => True)) Z102 hg hat); replace Aa := aM (blk_grown (g := Bf) (o := .cells #[.int .i64 Ao, .int .i64 Ap, .slice Av Ak.length Aw] 30 (0, 0)) Z44 hg (Kd.R_ne Az.out Aa.out (by decide))); replace Ab := aM (blk_grown (g := Aq) (o := .cells #[.int .i64 Af, .int .i64 Ag, .int .i64 Ah, .int .i64 Ad] 32 (0, 0)) Z11 hg (Kd.R_ne Az.out Ab.out (by decide))); replace HB := aM (hb); have Cf := aM (ho); clear Az; clear ho hb hg hat; refine hK.out _ _ ?_; clear hK K; refine noR 41 ?_; refine puR 16 6 #[true, true, true, true, true, true, true, true, true, true, true, true, true, true, true, true, true] HT_ rfl rfl ?_; refine done_ (done_of HT_.out Z66) ?_
        try go_wp2
        go_roundg k1
        case measure => have := HK1.out; omega
        case rel => exact ⟨(Cd), (wrap64 (Ai + 1)), Z38, H', ⟨Z110⟩, ⟨Z115⟩, ⟨Z107⟩, ⟨Z44⟩, ⟨Z11⟩, ⟨Z36⟩⟩
       ·rw [if_neg Ci] at H
        exact absurd H (by simp)
     ·rw [if_neg Cg] at H
      exact absurd H (by simp)
    ·rw [if_neg B7] at H
     have c13b0 : decide (Ai < (Aj.length : Int)) = false := decide_eq_false B7; clear B7
     simp only [Option.some.injEq, Prod.mk.injEq] at H
     obtain ⟨rfl, rfl⟩ := H; obtain ⟨C8, C9, C0⟩ := Kd.R_slice Au.out; subst C0
     go_wp2
     go_ret2
     exact ⟨_, Z8, by (with_reducible repeat (first | apply Kd.R_alloc | apply Kd.R_drewN | apply Kd.R_drew)); exact Kd.R_mono Az.out (fun _ hk => trivial), Z36⟩
 ·replace c4 := Bool.eq_false_iff.mpr c4
  subst c4
  have H1 : (some (Ar, false)) = some (r1, r2) := by rw [if_neg (show ¬ (false = true) by decide)] at H; exact H
  clear H; have H := H1; clear H1
  simp only [Option.some.injEq, Prod.mk.injEq] at H
  obtain ⟨rfl, rfl⟩ := H
  go_enter Try.func21, Try.ntmps21
  go_wp2_with (first | ((with_reducible refine gate_dst (N := 2) rfl ?_); refine bxE 2 #[.int .i64 Ao, .int .i64 Ap, .slice Av Ak.length Aw] 30 ?_; intro Bf hg De hbox hb; have Aa := aM (hbox); have Ca := gwS hg Z2; have Ac := gwS hg Z2; replace HB := hbS Z2 hb; clear hb hbox hg) | ((with_reducible refine gate_dst (N := 3) rfl ?_); refine bxE 3 #[.int .i64 Af, .int .i64 Ag, .int .i64 Ah, .int .i64 Ad] 32 ?_; intro Aq hg Df hbox hb; have Ab := aM (hbox); have Cb := gwS hg Z54; have Ae := gwS hg Z54; replace HB := hbS Z54 hb; have Am := nbL hg Aa; have An := nbG hg Aa; replace Aa := bkB Aa hb; clear hb hbox hg) | ((with_reducible refine gate_dst (N := 10) rfl ?_); refine Kd.R_lit (Kd.int .i64) _ 3 ?hg (N := 10) ?hd (xs := ([] : List Int)) (inner := []) (ok := fun _ => True) (okp := fun _ => True) ?hr ?hp (fun _ hk => hk) trivial (Below.refl _ _) (Nat.le_refl _) (by simp) ?_; (case hd => rfl); (case hg => rfl); (case hr => first | (go_simp; done) | (go_simp; rfl)); (case hp => exact (Reps.none _ _)); intro Cx Dg Bg hb hg_ hnew_; clear hg_ hnew_; (first | rw [← Bb.out] at Bg | (simp only [Int.reduceToNat] at Bg; rw [← Bb.out] at Bg)); have Al := aM (Kd.R_lower Bg (below_size Z36)); replace Aa := bkB Aa hb; replace Ab := bkB Ab hb; replace HB := hbS Z36 hb; clear hb Bg; have C2 := Am.out; have C3 := An.out; obtain ⟨Cj, Ck, Cl⟩ := bz3 Aa; obtain ⟨Cm, Cn, Co⟩ := fz3 Aa; obtain ⟨Cp, Cq, Cr, Cs⟩ := bz4 Ab; obtain ⟨Ct, Cu, Cv, Cw⟩ := fz4 Ab) | ((with_reducible refine gate_callee (f := 12) rfl ?_); refine glE (some 14) Try.func12 #[.agg #[.int .i64 Ao, .int .i64 Ap, .slice Av Ak.length Aw], .agg #[.int .i64 Af, .int .i64 Ag, .int .i64 Ah, .int .i64 Ad]] ?_; (with_reducible refine (spec_YarnByColor.calls k Ao Ap _ _ Ak Af Ag Ah Ad Aj false _ ?side1 ?side2 A3.out).mono ?_); (case side1 => exact Z89); (case side2 => exact Bz.out); rintro e Dh ⟨B1, rfl, B2, hb⟩; refine ⟨_, rfl, ?_⟩; have B0 := aM (Kd.R_lower (Kd.R_new' B2 (Kd.R_lt Z39)) (below_size Z36)); replace Al := aM (Kd.R_elder' Z39 (Kd.R_base B2) hb); replace Aa := bkB Aa hb; replace Ab := bkB Ab hb; replace HB := hbS Z36 hb; (try clear hb); (try clear B2)))
  go_ret2
  exact ⟨_, Z8, by (with_reducible repeat (first | apply Kd.R_alloc | apply Kd.R_drewN | apply Kd.R_drew)); exact Kd.R_mono Al.out (fun _ hk => trivial), Z36⟩
def impl_BallsByColor.l0 : Nat → List Int → Bool → Int → Int → Int → Int → Int → Int → Option (List Int × Bool)
 | 0, _, _, _, _, _, _, _, _ => none
 | k + 1, x6, x7, x17, x18, x281000, x281001, x281002, x281003 => if x18 < x17 then (if 0 ≤ x18 then (if x18 < (x6.length : Int) then ((impl_ceilDiv.f (rd x6 x18) (wrap64 (1000 * x281003))).bind fun t286 => (impl_BallsByColor.l0 k (x6.set (x18 : Int).toNat t286) x7 x17 (wrap64 (x18 + 1)) x281000 x281001 x281002 x281003)) else (none)) else (none)) else (some (x6, x7))
def impl_BallsByColor.f (k : Nat) (a0_0 : Int) (a0_1 : Int) (l0_2 : List Int) (a1_0 : Int) (a1_1 : Int) (a1_2 : Int) (a1_3 : Int) : Option (List Int × Bool) := (impl_YarnByColor.f k a0_0 a0_1 l0_2 a1_0 a1_1 a1_2 a1_3).bind fun bt281 => (impl_BallsByColor.l0 k bt281.1 bt281.2 (bt281.1.length : Int) 0 a1_0 a1_1 a1_2 a1_3)
theorem impl_BallsByColor.calls (k : Nat) (Aq : Int) (Ar : Int) (Av : Option Addr) (Aw : Nat) (Al : List Int) (Ag : Int) (Ah : Int) (Ai : Int) (Ae : Int) (r1 : List Int) (r2 : Bool) (w : World) (Bd : Kd.C (Kd.int .i64) w Av Al.length Al) (Bf : Al.length ≤ Aw) (h : impl_BallsByColor.f k Aq Ar Al Ag Ah Ai Ae = some (r1, r2)) :
  Calls Try.prog 22 #[.agg #[.int .i64 Aq, .int .i64 Ar, .slice Av Al.length Aw], .agg #[.int .i64 Ag, .int .i64 Ah, .int .i64 Ai, .int .i64 Ae]] w fun e w' => ∃ v0_ : Value, e = .returned (.tuple #[v0_, .bool r2]) ∧ Kd.R (Kd.int .i64) 3 w' w.heap.size (fun _ => True) v0_ r1 ∧ Below w.heap.size w w' := by
 have hu30 := Try.underlying30; have hu32 := Try.underlying32; have B3 := Aside0.mk Bd; have B5 := Aside0.mk Bf; clear Bd Bf; have HB := aM (Below.refl w.heap.size w); have H : ((impl_YarnByColor.f k Aq Ar Al Ag Ah Ai Ae).bind fun Ax => (impl_BallsByColor.l0 k Ax.1 Ax.2 (Ax.1.length : Int) 0 Ag Ah Ai Ae)) = some (r1, r2) := h; clear h; replace H := Option.bind_eq_some_iff.mp H; obtain ⟨⟨Am, Ay⟩, Cu, H⟩ := H; replace H : (impl_BallsByColor.l0 k Am Ay (Am.length : Int) 0 Ag Ah Ai Ae) = some (r1, r2) := H; have A3 := Aside0.mk Cu; clear Cu; have H' := Aside0.mk H; clear H
 go_enter Try.func22, Try.ntmps22
 go_wp2_with (first | ((with_reducible refine gate_dst (N := 2) rfl ?_); refine bxE 2 #[.int .i64 Aq, .int .i64 Ar, .slice Av Al.length Aw] 30 ?_; intro Az hg w4 hbox hb; have Ab := aM (hbox); have Cv := gwS hg Z2; have Aj := gwS hg Z2; replace HB := hbS Z2 hb; clear hb hbox hg) | ((with_reducible refine gate_dst (N := 3) rfl ?_); refine bxE 3 #[.int .i64 Ag, .int .i64 Ah, .int .i64 Ai, .int .i64 Ae] 32 ?_; intro Ba hg w5 hbox hb; have Ac := aM (hbox); have Cw := gwS hg Z79; have An := gwS hg Z79; replace HB := hbS Z79 hb; have Ao := nbL hg Ab; have Ap := nbG hg Ab; replace Ab := bkB Ab hb; clear hb hbox hg; have C0 := Ao.out; have C1 := Ap.out; obtain ⟨Bh, Bi, Bj⟩ := bz3 Ab; obtain ⟨Bk, Bl, Bm⟩ := fz3 Ab; obtain ⟨Bn, Bo, Bp, Bq⟩ := bz4 Ac; obtain ⟨Br, Bs, Bt, Bu⟩ := fz4 Ac) | ((with_reducible refine gate_callee (f := 15) rfl ?_); refine glE (some 13) Try.func15 #[.agg #[.int .i64 Aq, .int .i64 Ar, .slice Av Al.length Aw], .agg #[.int .i64 Ag, .int .i64 Ah, .int .i64 Ai, .int .i64 Ae]] ?_; (with_reducible refine (impl_YarnByColor.calls k Aq Ar _ _ Al Ag Ah Ai Ae Am Ay _ ?side1 ?side2 A3.out).mono ?_); (case side1 => exact (by repeat (first | exact (Kd.C_below B3.out HB.out) | (with_reducible refine Kd.C_alloc ?_ _) | (with_reducible refine Kd.C_drewN ?_ _) | (with_reducible refine Kd.C_drew ?_)))); (case side2 => exact B5.out); rintro e w9 ⟨C2, rfl, Cx, hb⟩; refine ⟨_, rfl, ?_⟩; have Bg := aM (Kd.R_lower Cx (below_size Z50)); replace Ab := bkB Ab hb; replace Ac := bkB Ac hb; replace HB := hbS Z50 hb; (try clear hb); (try clear Cx); obtain ⟨Cm, Bv, Cn⟩ := Kd.R_slice Bg.out; subst Cn))
 go_loopg [18] k (fun kq C3 w' => ∃ (Ak : List Int) (Aa : Int), C3 = .int .i64 Aa ∧ Aside0 (impl_BallsByColor.l0 kq Ak Ay (Am.length : Int) Aa Ag Ah Ai Ae = some (r1, r2)) ∧ Aside0 (kq ≤ k) ∧ Aside0 (Kd.R (Kd.int .i64) 3 w' w.heap.size (fun _ => True) (.slice Cm Am.length Bv) Ak) ∧ Aside0 (w'.heap[Az]? = some (.cells #[.int .i64 Aq, .int .i64 Ar, (.slice Av Al.length Aw)] 30 (0, 0))) ∧ Aside0 (w'.heap[Ba]? = some (.cells #[.int .i64 Ag, .int .i64 Ah, .int .i64 Ai, .int .i64 Ae] 32 (0, 0))) ∧ Aside0 (Below w.heap.size w w'))
 case atStart => exact ⟨(Am), (0), Z38, H', ⟨Nat.le_refl _⟩, ⟨Z99⟩, ⟨Z11⟩, ⟨Z25⟩, ⟨Z50⟩⟩
 case round =>
  clear H'; (try clear c1); (try clear c2); (try clear p2); (try clear c6); (try clear Bh); (try clear Bi); (try clear Bj); (try clear Bn); (try clear Bo); (try clear Bp); (try clear Bq); (try clear Bk); (try clear Bl); (try clear Bm); (try clear Br); (try clear Bs); (try clear Bt); (try clear Bu); obtain ⟨Ak, Aa, rfl, HA, HK1, Af, Ab, Ac, HB⟩ := hrel; have Ad := (Kd.R_reads' Af.out).1; rw [Ad] at Af
  (try simp only [Ad])
  (try simp only [Ad] at Ab)
  (try simp only [Ad] at Ac)
  cases gk with
  | zero => exact absurd HA.out (by simp [impl_BallsByColor.l0])
  | succ k1 =>
   have H := HA.out; clear HA
   simp only [impl_BallsByColor.l0] at H
   by_cases B2 : Aa < (Am.length : Int)
   ·rw [if_pos B2] at H
    have c11b0 : decide (Aa < (Am.length : Int)) = true := decide_eq_true B2
    (try simp only [Ad] at c11b0)
    clear B2
    by_cases Cc : 0 ≤ Aa
    ·rw [if_pos Cc] at H
     have c12b0 : decide (0 ≤ Aa) = true := decide_eq_true Cc; clear Cc
     by_cases Cd : Aa < (Ak.length : Int)
     ·rw [if_pos Cd] at H
      have c13b0 : decide (Aa < (Ak.length : Int)) = true := decide_eq_true Cd
      (try simp only [Ad] at c13b0)
      clear Cd; replace H := Option.bind_eq_some_iff.mp H; obtain ⟨Bb, B7, H⟩ := H; replace H : (impl_BallsByColor.l0 k1 (Ak.set (Aa : Int).toNat Bb) Ay (Am.length : Int) (wrap64 (Aa + 1)) Ag Ah Ai Ae) = some (r1, r2) := H; have C4 := Aside0.mk B7; clear B7; obtain ⟨Bw, Au⟩ : ∃ y_ : List Int, y_ = (Ak.set (Aa : Int).toNat Bb) := ⟨_, rfl⟩
      replace H : (impl_BallsByColor.l0 k1 Bw Ay (Am.length : Int) (wrap64 (Aa + 1)) Ag Ah Ai Ae) = some (r1, r2) := by first | (rw [Au]; with_reducible exact H) | (have H2_ := (Option.bind_some _ _).symm.trans H; rw [Au]; with_reducible exact H2_) | (have H2_ := (Option.bind_some _ _).symm.trans H; with_reducible exact H2_) | with_reducible exact H | (rw [Au]; exact H) | exact H
      have B9 := Aside0.mk Au; clear Au; have H' := Aside0.mk H; clear H; have Bx : 0 ≤ (Aa : Int) := of_decide_eq_true Z30; have Bz : Aa < (Ak.length : Int) := of_decide_eq_true Z30; obtain ⟨ad285, e285, Bc⟩ := Kd.at_int (Kd.R_reads' Af.out).2.2 Aa Bx Bz; cases e285; replace Bx := eq_true Bx; replace Bz := eq_true Bz; have Cy := Ap.out; have Cz := Ao.out; obtain ⟨Ce, Cf, Cg, Ch⟩ := bz4 Ac; obtain ⟨Ci, Cj, Ck, Cl⟩ := fz4 Ac
      go_wp2_with (first | ((with_reducible refine gate_callee (f := 53) rfl ?_); refine glE (some 29) Try.func53 #[.int .i64 (rd Ak Aa), .int .i64 (wrap64 (1000 * Ae))] ?_; (with_reducible refine (impl_ceilDiv.calls (rd Ak Aa) (wrap64 (1000 * Ae)) Bb _ C4.out).mono ?_); rintro e w' ⟨rfl, ⟨nd, rfl⟩⟩; refine ⟨_, rfl, ?_⟩; (try (rw [drewN_self wr]; generalize hq_ : World.drewN wr _ = wr; have n0_ : Aside0 (Kd.R (Kd.int .i64) 3 wr w.heap.size (fun k_ => True) (.slice (some ad285) Ak.length Bv) Ak) := ⟨by rw [← hq_]; exact Z14⟩; have n1_ : Aside0 (wr.heap[Az]? = some (.cells #[.int .i64 Aq, .int .i64 Ar, .slice Av Al.length Aw] 30 (0, 0))) := ⟨by rw [← hq_]; exact Z11⟩; have n2_ : Aside0 (wr.heap[Ba]? = some (.cells #[.int .i64 Ag, .int .i64 Ah, .int .i64 Ai, .int .i64 Ae] 32 (0, 0))) := ⟨by rw [← hq_]; exact Z25⟩; have n3_ : Aside0 (Below w.heap.size w wr) := ⟨by rw [← hq_]; exact Z50⟩; clear Af Ab Ac HB hq_; have Af := n0_; have Ab := n1_; have Ac := n2_; have HB := n3_; clear n0_ n1_ n2_ n3_)); have Co : 0 ≤ (Aa : Int) := of_decide_eq_true Z30; have Cp : (Aa : Int) < ((Ak.length : Int) : Int) := of_decide_eq_true Z30; obtain ⟨B0, C5, Ca, Cb, gl15, cl15, HG15⟩ := Kd.R_form Af.out (by omega); (first | cases Ca | (injection Ca with ea_ en_ ec_; (first | subst ea_ | (injection ea_ with ea_; subst ea_)); subst ec_; clear en_)); have Cq := Aside0.mk Cb; have C6 := Aside0.mk HG15; clear Cb gl15 HG15; (first | simp only [add_plain] at Bc | skip); obtain ⟨Cr, Cs⟩ := Kd.R_celln 0 Af.out (Aa : Int) Co Cp; replace Co := eq_true Co; replace Cp := eq_true Cp; obtain ⟨hy18_, hz18_⟩ := Kd.R_celln 0 Af.out (Aa : Int) (of_decide_eq_true Z30) (of_decide_eq_true Z30); have B1 := Kd.R_putg Af.out (Aa : Int) Bb) | ((with_reducible refine gate_store (t := 3) (p := 30) rfl ?_); refine store_event (t := 3) (p := 30) (v := ?vo_w19) (w1 := (wr.setCell ⟨B0, (Aa : Int).toNat, none⟩ (.int .i64 Bb))) ?hg ?ho ?hn ?hr ?_; (case ho => rfl); (case hg => rfl); (case hn => rfl); (case hr => first | (go_simp; done) | (go_simp; rfl)); intro Ct hw; have hg : wr.grownBy Ct (some B0) := (by rw [hw]; exact B1.2); have hp_ : Kd.R (Kd.int .i64) 3 Ct w.heap.size (fun _ => True) (.slice (some ⟨B0, 0, none⟩) Ak.length Bv) Bw := (by rw [hw, B9.out]; exact B1.1); clear B1; replace Ab := aM (blk_grown (g := Az) (o := .cells #[.int .i64 Aq, .int .i64 Ar, .slice Av Al.length Aw] 30 (0, 0)) Z11 hg (Kd.R_ne Af.out Ab.out (by decide))); replace Ac := aM (blk_grown (g := Ba) (o := .cells #[.int .i64 Ag, .int .i64 Ah, .int .i64 Ai, .int .i64 Ae] 32 (0, 0)) Z25 hg (Kd.R_ne Af.out Ac.out (by decide))); replace Af := aM (hp_); replace HB := aM ((by rw [hw]; exact below_set (HB.out) Cq.out : Below w.heap.size w Ct)); clear hg hw hp_))
      (try simp only [← Ad])
      go_roundg k1
      case measure => have := HK1.out; omega
      case rel => exact ⟨(Bw), (wrap64 (Aa + 1)), Z38, H', ⟨Z110⟩, ⟨by (try simp only [Ad]); (with_reducible repeat (first | apply Kd.R_alloc | apply Kd.R_drewN | apply Kd.R_drew)); exact Af.out⟩, ⟨Z103⟩, ⟨Z104⟩, ⟨Z50⟩⟩
     ·rw [if_neg Cd] at H
      exact absurd H (by simp)
    ·rw [if_neg Cc] at H
     exact absurd H (by simp)
   ·rw [if_neg B2] at H
    have c11b0 : decide (Aa < (Am.length : Int)) = false := decide_eq_false B2
    (try simp only [Ad] at c11b0)
    clear B2
    simp only [Option.some.injEq, Prod.mk.injEq] at H
    obtain ⟨rfl, rfl⟩ := H
    go_wp2
    go_ret2
    exact ⟨_, Z8, Z14, Z50⟩
end Go.Proofs.Ytnkecgldapagcaa.H
