-- by wip/pack.py of this repo
import Derived.Test.YthalifhbjioaeaaDoorZ10Hx0
import Derived.Test.YthalifhbjioaeaaDoorZ10Hx3
import Derived.Test.YthalifhbjioaeaaDoorZ10Hx8
import Derived.Test.YthalifhbjioaeaaDoorZ10Hx9
import Derived.Test.YthalifhbjioaeaaDoorZ10WApart
import Derived.Test.YthalifhbjioaeaaDoorZ10WGuard
import Derived.Test.YthalifhbjioaeaaDoorZ10WLast
import Derived.Test.YthalifhbjioaeaaDoorZ10WMore
import Derived.Test.YthalifhbjioaeaaDoorZ10WN
import Derived.Test.YthalifhbjioaeaaDoorZ10WRepsOne
import Derived.Test.YthalifhbjioaeaaDoorZ10WWords
import Derived.Test.YthalifhbjioaeaaDoorZ10Short
namespace Go.Proofs.YthalifhbjioaeaaDoor.H
open Go.RowKit Go.Proofs.YthalifhbjioaeaaDoorW.PrintWords Go.Proofs.YthalifhbjioaeaaDoorW.PrintLast Go.Proofs.YthalifhbjioaeaaDoorW.PrintMore
attribute [local go_sem] max2_int min2_int max_two min_two max_three min_three max_four min_four
set_option maxHeartbeats 8000000
set_option maxRecDepth 100000
set_option linter.unusedVariables false
set_option linter.unusedSimpArgs false
mutual
def spec_l11Least.l0 : Nat → List (S26) → Int → Int → Int → Option (List Int × Bool)
 | 0, _, _, _, _ => none
 | k + 1, x0, x2, x3, x10 => if x10 < (x0.length : Int) then (if 0 ≤ x10 then ((spec_l11Least.f k x0 (wrap64 (x10 + 1)) (wrap64 (x2 - 1)) (Go.bits .and .i64 x3 (wrap64 (15 - ((rd_T26 x0 x10).f2))))).bind fun bt578 => (if bt578.2 = true then ((some (([(rd_T26 x0 x10).f0] : List Int) : List Int)).bind fun y583 => (if y583.length + bt578.1.length < 17592186044416 then (some ((y583 ++ bt578.1), true)) else (none))) else (spec_l11Least.l0 k x0 x2 x3 (wrap64 (x10 + 1))))) else (none)) else (some ((([] : List Int)), false))
def spec_l11Least.f : Nat → List (S26) → Int → Int → Int → Option (List Int × Bool)
 | 0, _, _, _, _ => none
 | k + 1, l0, a1, a2, a3 => if a2 = 0 then (some ((([] : List Int)), (a3 == 0))) else (spec_l11Least.l0 k l0 a2 a3 a1)
end
theorem spec_l11Least.calls (k : Nat) : ∀ (A0 : Option Addr) (c0 : Nat) (l0 : List (S26)) (a1 : Int) (a2 : Int) (a3 : Int) (r1 : List Int) (r2 : Bool) (w : World) (Bq : Kd.C k26 w A0 l0.length l0) (Br : l0.length ≤ c0) (h : spec_l11Least.f k l0 a1 a2 a3 = some (r1, r2)),
  Calls Tryd.prog 87 #[.slice A0 l0.length c0, .int .i64 a1, .int .i64 a2, .int .i64 a3] w fun e w' => ∃ v0_ : Value, e = .returned (.tuple #[v0_, .bool r2]) ∧ Kd.R (Kd.int .i64) 3 w' w.heap.size (fun _ => True) v0_ r1 ∧ Below w.heap.size w w' := by
 induction k using Nat.strongRecOn with
 | _ k ih =>
 intro A0 c0 l0 a1 a2 a3 r1 r2 w Bq Br h; cases k with
 | zero => exact absurd h (by simp [spec_l11Least.f])
 | succ k =>
 simp only [spec_l11Least.f] at h
 have Bf := Aside0.mk Bq; have B1 := Aside0.mk Br; clear Bq Br; have HB := aM (Below.refl w.heap.size w); have H : (if a2 = 0 then (some ((([] : List Int)), (a3 == 0))) else (spec_l11Least.l0 k l0 a2 a3 a1)) = some (r1, r2) := h; clear h
 by_cases c5 : a2 = 0
 ·rw [if_pos c5] at H
  have c5b0 : (a2 == 0) = true := beq_iff_eq.mpr c5; have c5b1 : (a2 != 0) = false := bne_eq_false_iff_eq.mpr c5; clear c5; obtain ⟨Bs, Ao⟩ : ∃ y_ : List Int, y_ = (([] : List Int)) := ⟨_, rfl⟩
  replace H : (some (Bs, (a3 == 0))) = some (r1, r2) := by first | (rw [Ao]; with_reducible exact H) | (have H2_ := (Option.bind_some _ _).symm.trans H; rw [Ao]; with_reducible exact H2_) | (have H2_ := (Option.bind_some _ _).symm.trans H; with_reducible exact H2_) | with_reducible exact H | (rw [Ao]; exact H) | exact H
  have Ay := Aside0.mk Ao; clear Ao
  simp only [Option.some.injEq, Prod.mk.injEq] at H
  obtain ⟨rfl, rfl⟩ := H
  go_enter Tryd.func87, Tryd.ntmps87
  go_wp2_with (first | ((with_reducible refine gate_dst (N := 15) rfl ?_); refine Kd.R_lit (Kd.int .i64) _ 3 ?hg (N := 15) ?hd (xs := ([] : List Int)) (inner := []) (ok := fun _ => True) (okp := fun _ => True) ?hr ?hp (fun _ hk => hk) trivial (Below.refl _ _) (Nat.le_refl _) (by simp) ?_; (case hd => rfl); (case hg => rfl); (case hr => first | (go_simp; done) | (go_simp; rfl)); (case hp => exact (Reps.none _ _)); intro B3 w6 Bg hb hg_ hnew_; clear hg_ hnew_; (first | rw [← Ay.out] at Bg | (simp only [Int.reduceToNat] at Bg; rw [← Ay.out] at Bg)); have Bh := aM (Kd.R_lower Bg (below_size Z0)); replace HB := hbS Z0 hb; clear hb Bg))
  go_ret2
  exact ⟨_, Z14, by (with_reducible repeat (first | apply Kd.R_alloc | apply Kd.R_drewN | apply Kd.R_drew)); exact Bh.out, Z0⟩
 ·rw [if_neg c5] at H
  have c5b0 : (a2 == 0) = false := beq_eq_false_iff_ne.mpr c5; have c5b1 : (a2 != 0) = true := bne_iff_ne.mpr c5; have H' := Aside0.mk H; clear H
  go_enter Tryd.func87, Tryd.ntmps87
  go_wp2
  go_loopg [10] k (fun kq B4 w' => ∃ (Aa : Int), B4 = .int .i64 Aa ∧ Aside0 (spec_l11Least.l0 kq l0 a2 a3 Aa = some (r1, r2)) ∧ Aside0 (kq ≤ k) ∧ Aside0 (Below w.heap.size w w'))
  case atStart => exact ⟨(a1), Z15, H', ⟨Nat.le_refl _⟩, ⟨Z0⟩⟩
  case round =>
   clear H'; (try clear p2); (try clear c5); (try clear c5b0); (try clear c5b1); obtain ⟨Aa, rfl, HA, HK1, HB⟩ := hrel; cases gk with
   | zero => exact absurd HA.out (by simp [spec_l11Least.l0])
   | succ k1 =>
    have H := HA.out; clear HA
    simp only [spec_l11Least.l0] at H
    by_cases c8 : Aa < (l0.length : Int)
    ·rw [if_pos c8] at H
     have c8b0 : decide (Aa < (l0.length : Int)) = true := decide_eq_true c8; clear c8
     by_cases c9 : 0 ≤ Aa
     ·rw [if_pos c9] at H
      have c9b0 : decide (0 ≤ Aa) = true := decide_eq_true c9; clear c9; replace H := Option.bind_eq_some_iff.mp H; obtain ⟨⟨Ah, Bi⟩, Bj, H⟩ := H; replace H : (if Bi = true then ((some (([(rd_T26 l0 Aa).f0] : List Int) : List Int)).bind fun Ai => (if Ai.length + Ah.length < 17592186044416 then (some ((Ai ++ Ah), true)) else (none))) else (spec_l11Least.l0 k1 l0 a2 a3 (wrap64 (Aa + 1)))) = some (r1, r2) := H; have B2 := Aside0.mk Bj; clear Bj
      by_cases Bo : Bi = true
      ·subst Bo
       have H1 : ((some (([(rd_T26 l0 Aa).f0] : List Int) : List Int)).bind fun Ai => (if Ai.length + Ah.length < 17592186044416 then (some ((Ai ++ Ah), true)) else (none))) = some (r1, r2) := by rw [if_pos rfl] at H; exact H
       clear H; have H := H1; clear H1; obtain ⟨Ai, Ap⟩ : ∃ y_ : List Int, y_ = (([(rd_T26 l0 Aa).f0] : List Int)) := ⟨_, rfl⟩
       replace H : (if Ai.length + Ah.length < 17592186044416 then (some ((Ai ++ Ah), true)) else (none)) = some (r1, r2) := by first | (rw [Ap]; with_reducible exact H) | (have H2_ := (Option.bind_some _ _).symm.trans H; rw [Ap]; with_reducible exact H2_) | (have H2_ := (Option.bind_some _ _).symm.trans H; with_reducible exact H2_) | with_reducible exact H | (rw [Ap]; exact H) | exact H
       have Az := Aside0.mk Ap; clear Ap
       by_cases Bp : Ai.length + Ah.length < 17592186044416
       ·rw [if_pos Bp] at H
        have LMc12 := Aside0.mk Bp; clear Bp; obtain ⟨Bt, Aq⟩ : ∃ y_ : List Int, y_ = (Ai ++ Ah) := ⟨_, rfl⟩
        replace H : (some (Bt, true)) = some (r1, r2) := by first | (rw [Aq]; with_reducible exact H) | (have H2_ := (Option.bind_some _ _).symm.trans H; rw [Aq]; with_reducible exact H2_) | (have H2_ := (Option.bind_some _ _).symm.trans H; with_reducible exact H2_) | with_reducible exact H | (rw [Aq]; exact H) | exact H
        have Bk := Aside0.mk Aq; clear Aq
        simp only [Option.some.injEq, Prod.mk.injEq] at H
        obtain ⟨rfl, rfl⟩ := H; have Au : 0 ≤ (Aa : Int) := of_decide_eq_true Z10; have Av : Aa < (l0.length : Int) := of_decide_eq_true Z10; obtain ⟨ad577, e577, Ab, Ac, Ad, Ae, Af⟩ := at_T26 Bf.out Aa Au Av; cases e577; replace Ab := (HB.out.cell (World.block_lt_of_cell? w _ Ab)).trans Ab; replace Ac := (HB.out.cell (World.block_lt_of_cell? w _ Ac)).trans Ac; replace Ad := (HB.out.cell (World.block_lt_of_cell? w _ Ad)).trans Ad; replace Ae := (HB.out.cell (World.block_lt_of_cell? w _ Ae)).trans Ae; replace Af := (HB.out.cell (World.block_lt_of_cell? w _ Af)).trans Af; replace Au := eq_true Au; replace Av := eq_true Av
        go_wp2_with (first | ((with_reducible refine gate_callee (f := 87) rfl ?_); refine glE (some 39) Tryd.func87 #[.slice (some ad577) l0.length c0, .int .i64 (wrap64 (Aa + 1)), .int .i64 (wrap64 (a2 - 1)), .int .i64 (Go.bits .and .i64 a3 (wrap64 (15 - ((rd_T26 l0 Aa).f2))))] ?_; (with_reducible refine (ih k1 Z66 _ _ l0 (wrap64 (Aa + 1)) (wrap64 (a2 - 1)) (Go.bits .and .i64 a3 (wrap64 (15 - ((rd_T26 l0 Aa).f2)))) Ah true _ ?side1 ?side2 B2.out).mono ?_); (case side1 => exact Z79); (case side2 => exact B1.out); rintro e B8 ⟨Bu, rfl, Bl, hb⟩; refine ⟨_, rfl, ?_⟩; have Ag := aM (Kd.R_lower Bl (below_size Z0)); replace HB := hbS Z0 hb; (try clear hb); (try clear Bl); have Bc : 0 ≤ (Aa : Int) := of_decide_eq_true Z10; have Bd : Aa < (l0.length : Int) := of_decide_eq_true Z10; obtain ⟨ad582, e582, Aj, Ak, Al, Am, An⟩ := at_T26 Bf.out Aa Bc Bd; obtain rfl : ad577 = ad582 := (by injection e582); replace Aj := (HB.out.cell (World.block_lt_of_cell? w _ Aj)).trans Aj; replace Ak := (HB.out.cell (World.block_lt_of_cell? w _ Ak)).trans Ak; replace Al := (HB.out.cell (World.block_lt_of_cell? w _ Al)).trans Al; replace Am := (HB.out.cell (World.block_lt_of_cell? w _ Am)).trans Am; replace An := (HB.out.cell (World.block_lt_of_cell? w _ An)).trans An; replace Bc := eq_true Bc; replace Bd := eq_true Bd) | ((with_reducible refine gate_dst (N := 48) rfl ?_); refine Kd.R_lit (Kd.int .i64) _ 3 ?hg (N := 48) ?hd (xs := ([(rd_T26 l0 Aa).f0] : List Int)) (inner := [.int .i64 ((rd_T26 l0 Aa).f0)]) (ok := fun _ => True) (okp := fun _ => True) ?hr ?hp (fun _ hk => hk) trivial (Below.refl _ _) (Nat.le_refl _) (by simp) ?_; (case hd => rfl); (case hg => rfl); (case hr => first | (go_simp; done) | (go_simp; rfl)); (case hp => exact (Reps.one (show Kd.M (Kd.int .i64) _ _ _ ((rd_T26 l0 Aa).f0) [.int .i64 ((rd_T26 l0 Aa).f0)] from rfl) (Reps.none _ _))); intro Bv B9 Aw hb hg_ hnew_; clear hg_ hnew_; (first | rw [← Az.out] at Aw | (simp only [Int.reduceToNat] at Aw; rw [← Az.out] at Aw)); have Ba := aM (Kd.R_lower (Kd.R_new' Aw (Kd.R_lt Z12)) (below_size Z0)); replace Ag := aM (Kd.R_elder' Z12 (Kd.R_base Aw) hb); replace HB := hbS Z0 hb; clear hb Aw; obtain ⟨Bw, Bx, Bz⟩ := Kd.R_slice Ag.out; subst Bz) | ((with_reducible refine gate_builtin (b := .append) (xs := #[.tmp 48, .tmp 49]) rfl ?_); at_builtin; refine Kd.R_append_rows (Kd.int .i64) (w0 := w) w.heap.size rfl (.tmp 48) (.tmp 49) 41 3 (.int .i64 0) 8 rfl Tryd.underlying41 info3 rfl (by decide) (by omega) Bv Ai Ah _ _ _ (fun k_ => nS k_ Bw Ah.length Bx) (fun _ => False) rfl rfl ?aO ?aR (fun _ _ h => h) (fun _ h => h.elim) ?aF ?aB ?aS ?aL ?_; (case aR => repeat (first | exact (Kd.R_reads' Ag.out).2.2 | (with_reducible refine Kd.C_alloc ?_ _) | (with_reducible refine Kd.C_drewN ?_ _) | (with_reducible refine Kd.C_drew ?_))); (case aB => exact Z0); (case aF => exact (fun k_ hk => Kd.fresh' (Kd.R_lt Z12) k_ hk)); (case aO => exact (by (with_reducible repeat (first | apply Kd.R_alloc | apply Kd.R_drewN | apply Kd.R_drew)); exact Kd.R_mono Ba.out (fun _ hk => hk.2))); (case aS => exact (below_size Z0)); (case aL => have := LMc12.out; omega); intro B6 Ca ho hb hg hat; rw [← Bk.out] at ho; replace Ag := aM (Kd.R_after (ok := (fun _ => True)) Z12 hg hat); replace HB := aM (hb); have Bm := aM (ho); clear Ba; clear ho hb hg hat))
        go_ret2
        exact ⟨_, Z14, by (with_reducible repeat (first | apply Kd.R_alloc | apply Kd.R_drewN | apply Kd.R_drew)); exact Kd.R_mono Bm.out (fun _ hk => trivial), Z0⟩
       ·rw [if_neg Bp] at H
        exact absurd H (by simp)
      ·replace Bo := Bool.eq_false_iff.mpr Bo
       subst Bo
       have H1 : (spec_l11Least.l0 k1 l0 a2 a3 (wrap64 (Aa + 1))) = some (r1, r2) := by rw [if_neg (show ¬ (false = true) by decide)] at H; exact H
       clear H; have H := H1; clear H1; have H' := Aside0.mk H; clear H; have Au : 0 ≤ (Aa : Int) := of_decide_eq_true Z10; have Av : Aa < (l0.length : Int) := of_decide_eq_true Z10; obtain ⟨ad577, e577, Ab, Ac, Ad, Ae, Af⟩ := at_T26 Bf.out Aa Au Av; cases e577; replace Ab := (HB.out.cell (World.block_lt_of_cell? w _ Ab)).trans Ab; replace Ac := (HB.out.cell (World.block_lt_of_cell? w _ Ac)).trans Ac; replace Ad := (HB.out.cell (World.block_lt_of_cell? w _ Ad)).trans Ad; replace Ae := (HB.out.cell (World.block_lt_of_cell? w _ Ae)).trans Ae; replace Af := (HB.out.cell (World.block_lt_of_cell? w _ Af)).trans Af; replace Au := eq_true Au; replace Av := eq_true Av
       go_wp2_with (first | ((with_reducible refine gate_callee (f := 87) rfl ?_); refine glE (some 39) Tryd.func87 #[.slice (some ad577) l0.length c0, .int .i64 (wrap64 (Aa + 1)), .int .i64 (wrap64 (a2 - 1)), .int .i64 (Go.bits .and .i64 a3 (wrap64 (15 - ((rd_T26 l0 Aa).f2))))] ?_; (with_reducible refine (ih k1 Z66 _ _ l0 (wrap64 (Aa + 1)) (wrap64 (a2 - 1)) (Go.bits .and .i64 a3 (wrap64 (15 - ((rd_T26 l0 Aa).f2)))) Ah false _ ?side1 ?side2 B2.out).mono ?_); (case side1 => exact Z79); (case side2 => exact B1.out); rintro e Cb ⟨Bu, rfl, Bl, hb⟩; refine ⟨_, rfl, ?_⟩; have Ag := aM (Kd.R_lower Bl (below_size Z0)); replace HB := hbS Z0 hb; (try clear hb); (try clear Bl)))
       go_roundg k1
       case measure => have := HK1.out; omega
       case rel => exact ⟨(wrap64 (Aa + 1)), Z15, H', ⟨Z66⟩, ⟨Z0⟩⟩
     ·rw [if_neg c9] at H
      exact absurd H (by simp)
    ·rw [if_neg c8] at H
     have c8b0 : decide (Aa < (l0.length : Int)) = false := decide_eq_false c8; clear c8; obtain ⟨B0, Ar⟩ : ∃ y_ : List Int, y_ = (([] : List Int)) := ⟨_, rfl⟩
     replace H : (some (B0, false)) = some (r1, r2) := by first | (rw [Ar]; with_reducible exact H) | (have H2_ := (Option.bind_some _ _).symm.trans H; rw [Ar]; with_reducible exact H2_) | (have H2_ := (Option.bind_some _ _).symm.trans H; with_reducible exact H2_) | with_reducible exact H | (rw [Ar]; exact H) | exact H
     have Bb := Aside0.mk Ar; clear Ar
     simp only [Option.some.injEq, Prod.mk.injEq] at H
     obtain ⟨rfl, rfl⟩ := H
     go_wp2_with (first | ((with_reducible refine gate_dst (N := 51) rfl ?_); refine Kd.R_lit (Kd.int .i64) _ 3 ?hg (N := 51) ?hd (xs := ([] : List Int)) (inner := []) (ok := fun _ => True) (okp := fun _ => True) ?hr ?hp (fun _ hk => hk) trivial (Below.refl _ _) (Nat.le_refl _) (by simp) ?_; (case hd => rfl); (case hg => rfl); (case hr => first | (go_simp; done) | (go_simp; rfl)); (case hp => exact (Reps.none _ _)); intro B7 Cc Ax hb hg_ hnew_; clear hg_ hnew_; (first | rw [← Bb.out] at Ax | (simp only [Int.reduceToNat] at Ax; rw [← Bb.out] at Ax)); have Bn := aM (Kd.R_lower Ax (below_size Z0)); replace HB := hbS Z0 hb; clear hb Ax))
     go_ret2
     exact ⟨_, Z14, by (with_reducible repeat (first | apply Kd.R_alloc | apply Kd.R_drewN | apply Kd.R_drew)); exact Bn.out, Z0⟩
mutual
def spec_FewestFor.j0 : Nat → List (S26) → Int → Bool → Option (List Int × Bool)
 | 0, _, _, _ => none
 | k + 1, x0, x1, x16 => if x16 = true then (some ((([] : List Int)), false)) else (spec_FewestFor.l0 k x0 x1 1)
def spec_FewestFor.l0 : Nat → List (S26) → Int → Int → Option (List Int × Bool)
 | 0, _, _, _ => none
 | k + 1, x0, x1, x6 => if x6 ≤ 4 then ((spec_l11Least.f k x0 0 x6 x1).bind fun bt597 => (if bt597.2 = true then (some (bt597.1, true)) else (spec_FewestFor.l0 k x0 x1 (wrap64 (x6 + 1))))) else (some ((([] : List Int)), false))
end
def spec_FewestFor.f (k : Nat) (l0 : List (S26)) (a1 : Int) : Option (List Int × Bool) := (spec_l11Good.f k l0).bind fun t592 => (if t592 = true then ((spec_l11Skills.f a1).bind fun t593 => (spec_FewestFor.j0 k l0 a1 (!t593))) else (spec_FewestFor.j0 k l0 a1 true))
theorem spec_FewestFor.calls (k : Nat) (A0 : Option Addr) (c0 : Nat) (l0 : List (S26)) (a1 : Int) (r1 : List Int) (r2 : Bool) (w : World) (Bc : Kd.C k26 w A0 l0.length l0) (Bd : l0.length ≤ c0) (h : spec_FewestFor.f k l0 a1 = some (r1, r2)) :
  Calls Tryd.prog 43 #[.slice A0 l0.length c0, .int .i64 a1] w fun e w' => ∃ v0_ : Value, e = .returned (.tuple #[v0_, .bool r2]) ∧ Kd.R (Kd.int .i64) 3 w' w.heap.size (fun _ => True) v0_ r1 ∧ Below w.heap.size w w' := by
 have Au := Aside0.mk Bc; have Av := Aside0.mk Bd; clear Bc Bd; have HB := aM (Below.refl w.heap.size w); have H : ((spec_l11Good.f k l0).bind fun Ah => (if Ah = true then ((spec_l11Skills.f a1).bind fun Ab => (spec_FewestFor.j0 k l0 a1 (!Ab))) else (spec_FewestFor.j0 k l0 a1 true))) = some (r1, r2) := h; clear h; have Ax := Aside0.mk H; clear H
 go_enter Tryd.func43, Tryd.ntmps43
 go_upto_region 1 with (fail)
 go_cut [16] (fun Bi wc => ∃ (kq : Nat) (Ae : Bool), Bi = .bool Ae ∧ Aside0 (spec_FewestFor.j0 kq l0 a1 Ae = some (r1, r2)) ∧ Aside0 (kq ≤ k) ∧ Aside0 (Below w.heap.size w wc))
 case first =>
  have H := Ax.out; clear Ax; replace H := Option.bind_eq_some_iff.mp H; obtain ⟨Ah, Bf, H⟩ := H; replace H : (if Ah = true then ((spec_l11Skills.f a1).bind fun Ab => (spec_FewestFor.j0 k l0 a1 (!Ab))) else (spec_FewestFor.j0 k l0 a1 true)) = some (r1, r2) := H; have A4 := Aside0.mk Bf; clear Bf
  by_cases c5 : Ah = true
  ·subst c5
   have H1 : ((spec_l11Skills.f a1).bind fun Ab => (spec_FewestFor.j0 k l0 a1 (!Ab))) = some (r1, r2) := by rw [if_pos rfl] at H; exact H
   clear H; have H := H1; clear H1; replace H := Option.bind_eq_some_iff.mp H; obtain ⟨Ab, Bg, H⟩ := H; replace H : (spec_FewestFor.j0 k l0 a1 (!Ab)) = some (r1, r2) := H; have A6 := Aside0.mk Bg; clear Bg; have H' := Aside0.mk H; clear H
   go_wp2_with (first | ((with_reducible refine gate_callee (f := 61) rfl ?_); refine glE (some 10) Tryd.func61 #[.slice A0 l0.length c0] ?_; (with_reducible refine (spec_l11Good.calls k _ _ l0 true _ ?side1 ?side2 A4.out).mono ?_); (case side1 => exact Z52); (case side2 => exact Av.out); rintro e w7 ⟨rfl, hb⟩; refine ⟨_, rfl, ?_⟩; replace HB := hbS Z0 hb; (try clear hb)) | (go_at_call 75; (with_reducible refine (spec_l11Skills.calls a1 Ab _ A6.out).mono ?_); rintro e w' ⟨rfl, ⟨nd, rfl⟩⟩))
   go_meet
   case rel => exact ⟨_, (!Ab), Z15, H', ⟨Z69⟩, ⟨Z0⟩⟩
  ·replace c5 := Bool.eq_false_iff.mpr c5
   subst c5
   have H1 : (spec_FewestFor.j0 k l0 a1 true) = some (r1, r2) := by rw [if_neg (show ¬ (false = true) by decide)] at H; exact H
   clear H; have H := H1; clear H1; have H' := Aside0.mk H; clear H
   go_wp2_with (first | ((with_reducible refine gate_callee (f := 61) rfl ?_); refine glE (some 10) Tryd.func61 #[.slice A0 l0.length c0] ?_; (with_reducible refine (spec_l11Good.calls k _ _ l0 false _ ?side1 ?side2 A4.out).mono ?_); (case side1 => exact Z52); (case side2 => exact Av.out); rintro e w8 ⟨rfl, hb⟩; refine ⟨_, rfl, ?_⟩; replace HB := hbS Z0 hb; (try clear hb)))
   go_meet
   case rel => exact ⟨_, (true), Z15, H', ⟨Z69⟩, ⟨Z0⟩⟩
 case rest =>
  clear Ax; (try clear p2); (try clear c4); (try clear c5); (try clear c6); obtain ⟨kq, Ae, rfl, HA, HJ2, HB⟩ := hcut; cases kq with
  | zero => exact absurd HA.out (by simp [spec_FewestFor.j0])
  | succ Ay =>
   have H := HA.out; clear HA
   simp only [spec_FewestFor.j0] at H
   by_cases c9 : Ae = true
   ·subst c9
    have H1 : (some ((([] : List Int)), false)) = some (r1, r2) := by rw [if_pos rfl] at H; exact H
    clear H; have H := H1; clear H1; obtain ⟨Az, Ac⟩ : ∃ y_ : List Int, y_ = (([] : List Int)) := ⟨_, rfl⟩
    replace H : (some (Az, false)) = some (r1, r2) := by first | (rw [Ac]; with_reducible exact H) | (have H2_ := (Option.bind_some _ _).symm.trans H; rw [Ac]; with_reducible exact H2_) | (have H2_ := (Option.bind_some _ _).symm.trans H; with_reducible exact H2_) | with_reducible exact H | (rw [Ac]; exact H) | exact H
    have Aj := Aside0.mk Ac; clear Ac
    simp only [Option.some.injEq, Prod.mk.injEq] at H
    obtain ⟨rfl, rfl⟩ := H
    go_wp2_with (first | ((with_reducible refine gate_dst (N := 17) rfl ?_); refine Kd.R_lit (Kd.int .i64) _ 3 ?hg (N := 17) ?hd (xs := ([] : List Int)) (inner := []) (ok := fun _ => True) (okp := fun _ => True) ?hr ?hp (fun _ hk => hk) trivial (Below.refl _ _) (Nat.le_refl _) (by simp) ?_; (case hd => rfl); (case hg => rfl); (case hr => first | (go_simp; done) | (go_simp; rfl)); (case hp => exact (Reps.none _ _)); intro Bj Bl Af hb hg_ hnew_; clear hg_ hnew_; (first | rw [← Aj.out] at Af | (simp only [Int.reduceToNat] at Af; rw [← Aj.out] at Af)); have An := aM (Kd.R_lower Af (below_size Z0)); replace HB := hbS Z0 hb; clear hb Af))
    go_ret2
    exact ⟨_, Z14, by (with_reducible repeat (first | apply Kd.R_alloc | apply Kd.R_drewN | apply Kd.R_drew)); exact An.out, Z0⟩
   ·replace c9 := Bool.eq_false_iff.mpr c9
    subst c9
    have H1 : (spec_FewestFor.l0 Ay l0 a1 1) = some (r1, r2) := by rw [if_neg (show ¬ (false = true) by decide)] at H; exact H
    clear H; have H := H1; clear H1; have H' := Aside0.mk H; clear H
    go_wp2
    go_loopg [6] Ay (fun kq v6 w' => ∃ (Aa : Int), v6 = .int .i64 Aa ∧ Aside0 (spec_FewestFor.l0 kq l0 a1 Aa = some (r1, r2)) ∧ Aside0 (kq ≤ Ay) ∧ Aside0 (Below w.heap.size w w'))
    case atStart => exact ⟨(1), Z15, H', ⟨Nat.le_refl _⟩, ⟨Z0⟩⟩
    case round =>
     clear H'; (try clear p2); (try clear c4); (try clear c5); (try clear c6); (try clear c9); (try clear p2); obtain ⟨Aa, rfl, HA, HK2, HB⟩ := hrel; cases gk with
     | zero => exact absurd HA.out (by simp [spec_FewestFor.l0])
     | succ k2 =>
      have H := HA.out; clear HA
      simp only [spec_FewestFor.l0] at H
      by_cases Am : Aa ≤ 4
      ·rw [if_pos Am] at H
       have c12b0 : decide (Aa ≤ 4) = true := decide_eq_true Am; clear Am; replace H := Option.bind_eq_some_iff.mp H; obtain ⟨⟨Ai, Ao⟩, Ap, H⟩ := H; replace H : (if Ao = true then (some (Ai, true)) else (spec_FewestFor.l0 k2 l0 a1 (wrap64 (Aa + 1)))) = some (r1, r2) := H; have Bh := Aside0.mk Ap; clear Ap
       by_cases Aw : Ao = true
       ·subst Aw
        have H1 : (some (Ai, true)) = some (r1, r2) := by rw [if_pos rfl] at H; exact H
        clear H; have H := H1; clear H1
        simp only [Option.some.injEq, Prod.mk.injEq] at H
        obtain ⟨rfl, rfl⟩ := H
        go_wp2_with (first | ((with_reducible refine gate_callee (f := 87) rfl ?_); refine glE (some 26) Tryd.func87 #[.slice A0 l0.length c0, .int .i64 0, .int .i64 Aa, .int .i64 a1] ?_; (with_reducible refine (spec_l11Least.calls k2 _ _ l0 0 Aa a1 Ai true _ ?side1 ?side2 Bh.out).mono ?_); (case side1 => exact Z52); (case side2 => exact Av.out); rintro e Bm ⟨Ba, rfl, Aq, hb⟩; refine ⟨_, rfl, ?_⟩; have Ak := aM (Kd.R_lower Aq (below_size Z0)); replace HB := hbS Z0 hb; (try clear hb); (try clear Aq)))
        go_ret2
        exact ⟨_, Z14, Z21, Z0⟩
       ·replace Aw := Bool.eq_false_iff.mpr Aw
        subst Aw
        have H1 : (spec_FewestFor.l0 k2 l0 a1 (wrap64 (Aa + 1))) = some (r1, r2) := by rw [if_neg (show ¬ (false = true) by decide)] at H; exact H
        clear H; have H := H1; clear H1; have H' := Aside0.mk H; clear H
        go_wp2_with (first | ((with_reducible refine gate_callee (f := 87) rfl ?_); refine glE (some 26) Tryd.func87 #[.slice A0 l0.length c0, .int .i64 0, .int .i64 Aa, .int .i64 a1] ?_; (with_reducible refine (spec_l11Least.calls k2 _ _ l0 0 Aa a1 Ai false _ ?side1 ?side2 Bh.out).mono ?_); (case side1 => exact Z52); (case side2 => exact Av.out); rintro e Bn ⟨Ba, rfl, Aq, hb⟩; refine ⟨_, rfl, ?_⟩; have Ak := aM (Kd.R_lower Aq (below_size Z0)); replace HB := hbS Z0 hb; (try clear hb); (try clear Aq)))
        go_roundg k2
        case measure => have := HJ2.out; have := HK2.out; omega
        case rel => exact ⟨(wrap64 (Aa + 1)), Z15, H', ⟨Z105⟩, ⟨Z0⟩⟩
      ·rw [if_neg Am] at H
       have c12b0 : decide (Aa ≤ 4) = false := decide_eq_false Am; clear Am; obtain ⟨Bb, Ad⟩ : ∃ y_ : List Int, y_ = (([] : List Int)) := ⟨_, rfl⟩
       replace H : (some (Bb, false)) = some (r1, r2) := by first | (rw [Ad]; with_reducible exact H) | (have H2_ := (Option.bind_some _ _).symm.trans H; rw [Ad]; with_reducible exact H2_) | (have H2_ := (Option.bind_some _ _).symm.trans H; with_reducible exact H2_) | with_reducible exact H | (rw [Ad]; exact H) | exact H
       have Al := Aside0.mk Ad; clear Ad
       simp only [Option.some.injEq, Prod.mk.injEq] at H
       obtain ⟨rfl, rfl⟩ := H
       go_wp2_with (first | ((with_reducible refine gate_dst (N := 31) rfl ?_); refine Kd.R_lit (Kd.int .i64) _ 3 ?hg (N := 31) ?hd (xs := ([] : List Int)) (inner := []) (ok := fun _ => True) (okp := fun _ => True) ?hr ?hp (fun _ hk => hk) trivial (Below.refl _ _) (Nat.le_refl _) (by simp) ?_; (case hd => rfl); (case hg => rfl); (case hr => first | (go_simp; done) | (go_simp; rfl)); (case hp => exact (Reps.none _ _)); intro Bk Bo Ag hb hg_ hnew_; clear hg_ hnew_; (first | rw [← Al.out] at Ag | (simp only [Int.reduceToNat] at Ag; rw [← Al.out] at Ag)); have Ar := aM (Kd.R_lower Ag (below_size Z0)); replace HB := hbS Z0 hb; clear hb Ag))
       go_ret2
       exact ⟨_, Z14, by (with_reducible repeat (first | apply Kd.R_alloc | apply Kd.R_drewN | apply Kd.R_drew)); exact Ar.out, Z0⟩
def cmp_isNaN_int.f (a0 : Int) : Option (Bool) := some (a0 != a0)
theorem cmp_isNaN_int.calls (a0 : Int) (r : Bool) (w : World) (h : cmp_isNaN_int.f a0 = some r) :
  Calls Tryd.prog 102 #[.int .i64 a0] w fun e w' => e = .returned (.bool r) ∧ Drawn0 w w' := by
 have H : (some (a0 != a0)) = some r := h; clear h; obtain rfl := Option.some.inj H
 go_enter Tryd.func102, Tryd.ntmps102
 go_wp2
 go_ret
 exact ⟨Z15, Z27⟩
def cmp_Compare_int.f (a0 : Int) (a1 : Int) : Option (Int) := (cmp_isNaN_int.f a0).bind fun t604 => ((cmp_isNaN_int.f a1).bind fun t605 => (if t604 = true then (if t605 = true then (some 0) else (some (-1))) else (if t605 = true then (some 1) else (if a0 < a1 then (some (-1)) else (if a0 > a1 then (some 1) else (some 0))))))
theorem cmp_Compare_int.calls (a0 : Int) (a1 : Int) (r : Int) (w : World) (h : cmp_Compare_int.f a0 a1 = some r) :
  Calls Tryd.prog 82 #[.int .i64 a0, .int .i64 a1] w fun e w' => e = .returned (.int .i64 r) ∧ Drawn0 w w' := by
 have H : ((cmp_isNaN_int.f a0).bind fun Ab => ((cmp_isNaN_int.f a1).bind fun Aa => (if Ab = true then (if Aa = true then (some 0) else (some (-1))) else (if Aa = true then (some 1) else (if a0 < a1 then (some (-1)) else (if a0 > a1 then (some 1) else (some 0))))))) = some r := h; clear h; replace H := Option.bind_eq_some_iff.mp H; obtain ⟨Ab, Ac, H⟩ := H; replace H : ((cmp_isNaN_int.f a1).bind fun Aa => (if Ab = true then (if Aa = true then (some 0) else (some (-1))) else (if Aa = true then (some 1) else (if a0 < a1 then (some (-1)) else (if a0 > a1 then (some 1) else (some 0)))))) = some r := H; have A3 := Aside0.mk Ac; clear Ac; replace H := Option.bind_eq_some_iff.mp H; obtain ⟨Aa, Ad, H⟩ := H; replace H : (if Ab = true then (if Aa = true then (some 0) else (some (-1))) else (if Aa = true then (some 1) else (if a0 < a1 then (some (-1)) else (if a0 > a1 then (some 1) else (some 0))))) = some r := H; have A4 := Aside0.mk Ad; clear Ad
 by_cases c5 : Ab = true
 ·subst c5
  have H1 : (if Aa = true then (some 0) else (some (-1))) = some r := by rw [if_pos rfl] at H; exact H
  clear H; have H := H1; clear H1
  by_cases c6 : Aa = true
  ·subst c6
   have H1 : (some 0) = some r := by rw [if_pos rfl] at H; exact H
   clear H; have H := H1; clear H1; obtain rfl := Option.some.inj H
   go_enter Tryd.func82, Tryd.ntmps82
   go_wp2_with (first | ((with_reducible refine gate_callee (f := 102) rfl ?_); refine glE (some 8) Tryd.func102 #[.int .i64 a0] ?_; (with_reducible refine (cmp_isNaN_int.calls a0 true _ A3.out).mono ?_); rintro e w' ⟨rfl, ⟨nd, rfl⟩⟩; refine ⟨_, rfl, ?_⟩) | ((with_reducible refine gate_callee (f := 102) rfl ?_); refine glE (some 10) Tryd.func102 #[.int .i64 a1] ?_; (with_reducible refine (cmp_isNaN_int.calls a1 true _ A4.out).mono ?_); rintro e w' ⟨rfl, ⟨nd, rfl⟩⟩; refine ⟨_, rfl, ?_⟩))
   go_ret
   exact ⟨Z15, Z27⟩
  ·replace c6 := Bool.eq_false_iff.mpr c6
   subst c6
   have H1 : (some (-1)) = some r := by rw [if_neg (show ¬ (false = true) by decide)] at H; exact H
   clear H; have H := H1; clear H1; obtain rfl := Option.some.inj H
   go_enter Tryd.func82, Tryd.ntmps82
   go_wp2_with (first | ((with_reducible refine gate_callee (f := 102) rfl ?_); refine glE (some 8) Tryd.func102 #[.int .i64 a0] ?_; (with_reducible refine (cmp_isNaN_int.calls a0 true _ A3.out).mono ?_); rintro e w' ⟨rfl, ⟨nd, rfl⟩⟩; refine ⟨_, rfl, ?_⟩) | ((with_reducible refine gate_callee (f := 102) rfl ?_); refine glE (some 10) Tryd.func102 #[.int .i64 a1] ?_; (with_reducible refine (cmp_isNaN_int.calls a1 false _ A4.out).mono ?_); rintro e w' ⟨rfl, ⟨nd, rfl⟩⟩; refine ⟨_, rfl, ?_⟩))
   go_ret
   exact ⟨Z15, Z27⟩
 ·replace c5 := Bool.eq_false_iff.mpr c5
  subst c5
  have H1 : (if Aa = true then (some 1) else (if a0 < a1 then (some (-1)) else (if a0 > a1 then (some 1) else (some 0)))) = some r := by rw [if_neg (show ¬ (false = true) by decide)] at H; exact H
  clear H; have H := H1; clear H1
  by_cases c7 : Aa = true
  ·subst c7
   have H1 : (some 1) = some r := by rw [if_pos rfl] at H; exact H
   clear H; have H := H1; clear H1; obtain rfl := Option.some.inj H
   go_enter Tryd.func82, Tryd.ntmps82
   go_wp2_with (first | ((with_reducible refine gate_callee (f := 102) rfl ?_); refine glE (some 8) Tryd.func102 #[.int .i64 a0] ?_; (with_reducible refine (cmp_isNaN_int.calls a0 false _ A3.out).mono ?_); rintro e w' ⟨rfl, ⟨nd, rfl⟩⟩; refine ⟨_, rfl, ?_⟩) | ((with_reducible refine gate_callee (f := 102) rfl ?_); refine glE (some 10) Tryd.func102 #[.int .i64 a1] ?_; (with_reducible refine (cmp_isNaN_int.calls a1 true _ A4.out).mono ?_); rintro e w' ⟨rfl, ⟨nd, rfl⟩⟩; refine ⟨_, rfl, ?_⟩))
   go_ret
   exact ⟨Z15, Z27⟩
  ·replace c7 := Bool.eq_false_iff.mpr c7
   subst c7
   have H1 : (if a0 < a1 then (some (-1)) else (if a0 > a1 then (some 1) else (some 0))) = some r := by rw [if_neg (show ¬ (false = true) by decide)] at H; exact H
   clear H; have H := H1; clear H1
   by_cases c8 : a0 < a1
   ·rw [if_pos c8] at H
    have c8b0 : decide (a0 < a1) = true := decide_eq_true c8; clear c8; obtain rfl := Option.some.inj H
    go_enter Tryd.func82, Tryd.ntmps82
    go_wp2_with (first | ((with_reducible refine gate_callee (f := 102) rfl ?_); refine glE (some 8) Tryd.func102 #[.int .i64 a0] ?_; (with_reducible refine (cmp_isNaN_int.calls a0 false _ A3.out).mono ?_); rintro e w' ⟨rfl, ⟨nd, rfl⟩⟩; refine ⟨_, rfl, ?_⟩) | ((with_reducible refine gate_callee (f := 102) rfl ?_); refine glE (some 10) Tryd.func102 #[.int .i64 a1] ?_; (with_reducible refine (cmp_isNaN_int.calls a1 false _ A4.out).mono ?_); rintro e w' ⟨rfl, ⟨nd, rfl⟩⟩; refine ⟨_, rfl, ?_⟩))
    go_ret
    exact ⟨Z15, Z27⟩
   ·rw [if_neg c8] at H
    have c8b0 : decide (a0 < a1) = false := decide_eq_false c8; clear c8
    by_cases c9 : a0 > a1
    ·rw [if_pos c9] at H
     have c9b0 : decide (a1 < a0) = true := decide_eq_true c9; clear c9; obtain rfl := Option.some.inj H
     go_enter Tryd.func82, Tryd.ntmps82
     go_wp2_with (first | ((with_reducible refine gate_callee (f := 102) rfl ?_); refine glE (some 8) Tryd.func102 #[.int .i64 a0] ?_; (with_reducible refine (cmp_isNaN_int.calls a0 false _ A3.out).mono ?_); rintro e w' ⟨rfl, ⟨nd, rfl⟩⟩; refine ⟨_, rfl, ?_⟩) | ((with_reducible refine gate_callee (f := 102) rfl ?_); refine glE (some 10) Tryd.func102 #[.int .i64 a1] ?_; (with_reducible refine (cmp_isNaN_int.calls a1 false _ A4.out).mono ?_); rintro e w' ⟨rfl, ⟨nd, rfl⟩⟩; refine ⟨_, rfl, ?_⟩))
     go_ret
     exact ⟨Z15, Z27⟩
    ·rw [if_neg c9] at H
     have c9b0 : decide (a1 < a0) = false := decide_eq_false c9; clear c9; obtain rfl := Option.some.inj H
     go_enter Tryd.func82, Tryd.ntmps82
     go_wp2_with (first | ((with_reducible refine gate_callee (f := 102) rfl ?_); refine glE (some 8) Tryd.func102 #[.int .i64 a0] ?_; (with_reducible refine (cmp_isNaN_int.calls a0 false _ A3.out).mono ?_); rintro e w' ⟨rfl, ⟨nd, rfl⟩⟩; refine ⟨_, rfl, ?_⟩) | ((with_reducible refine gate_callee (f := 102) rfl ?_); refine glE (some 10) Tryd.func102 #[.int .i64 a1] ?_; (with_reducible refine (cmp_isNaN_int.calls a1 false _ A4.out).mono ?_); rintro e w' ⟨rfl, ⟨nd, rfl⟩⟩; refine ⟨_, rfl, ?_⟩))
     go_ret
     exact ⟨Z15, Z27⟩
def slices_Compare_int_int.l0 : Nat → List Int → List Int → List Int → Int → Int → Option (Int)
 | 0, _, _, _, _, _ => none
 | k + 1, x0, x1, x9, x10, x11 => if x11 < x10 then (if 0 ≤ x11 then (if x11 < (x9.length : Int) then (if x11 ≥ (x1.length : Int) then (some 1) else (if x11 < (x1.length : Int) then ((cmp_Compare_int.f (rd x9 x11) (rd x1 x11)).bind fun t608 => (if t608 = 0 then (slices_Compare_int_int.l0 k x0 x1 x9 x10 (wrap64 (x11 + 1))) else (some t608))) else (none))) else (none)) else (none)) else (if (x0.length : Int) < (x1.length : Int) then (some (-1)) else (some 0))
def slices_Compare_int_int.f (k : Nat) (l0 : List Int) (l1 : List Int) : Option (Int) := slices_Compare_int_int.l0 k l0 l1 l0 (l0.length : Int) 0
theorem slices_Compare_int_int.calls (k : Nat) (A0 : Option Addr) (c0 : Nat) (l0 : List Int) (A1 : Option Addr) (c1 : Nat) (l1 : List Int) (r : Int) (w : World) (Ak : Kd.C (Kd.int .i64) w A0 l0.length l0) (Al : l0.length ≤ c0) (Am : Kd.C (Kd.int .i64) w A1 l1.length l1) (An : l1.length ≤ c1) (h : slices_Compare_int_int.f k l0 l1 = some r) :
  Calls Tryd.prog 88 #[.slice A0 l0.length c0, .slice A1 l1.length c1] w fun e w' => e = .returned (.int .i64 r) ∧ Drawn0 w w' := by
 have Aj := Aside0.mk Ak; have Ar := Aside0.mk Al; clear Ak Al; have Ao := Aside0.mk Am; have Au := Aside0.mk An; clear Am An; have H : (slices_Compare_int_int.l0 k l0 l1 l0 (l0.length : Int) 0) = some r := h; clear h; have H' := Aside0.mk H; clear H
 go_enter Tryd.func88, Tryd.ntmps88
 go_wp2
 go_loopg [11] k (fun kq Aq w' => ∃ (Aa : Int), Aq = .int .i64 Aa ∧ Aside0 (slices_Compare_int_int.l0 kq l0 l1 l0 (l0.length : Int) Aa = some r) ∧ Aside0 (kq ≤ k) ∧ Drawn0 w w')
 case atStart => exact ⟨(0), Z15, H', ⟨Nat.le_refl _⟩, Z27⟩
 case round =>
  clear H'; (try clear c1); (try clear p2); obtain ⟨Aa, rfl, HA, HK1, ⟨m1, rfl⟩⟩ := hrel; cases gk with
  | zero => exact absurd HA.out (by simp [slices_Compare_int_int.l0])
  | succ k1 =>
   have H := HA.out; clear HA
   simp only [slices_Compare_int_int.l0] at H
   by_cases c3 : Aa < (l0.length : Int)
   ·rw [if_pos c3] at H
    have c3b0 : decide (Aa < (l0.length : Int)) = true := decide_eq_true c3; clear c3
    by_cases c4 : 0 ≤ Aa
    ·rw [if_pos c4] at H
     have c4b0 : decide (0 ≤ Aa) = true := decide_eq_true c4; clear c4
     by_cases c5 : Aa < (l0.length : Int)
     ·rw [if_pos c5] at H
      have c5b0 : decide (Aa < (l0.length : Int)) = true := decide_eq_true c5; clear c5
      by_cases c6 : Aa ≥ (l1.length : Int)
      ·rw [if_pos c6] at H
       have c6b0 : decide ((l1.length : Int) ≤ Aa) = true := decide_eq_true c6; clear c6; obtain rfl := Option.some.inj H; have Ab : 0 ≤ (Aa : Int) := of_decide_eq_true Z10; have Ac : Aa < (l0.length : Int) := of_decide_eq_true Z10; obtain ⟨ad606, e606, Ag⟩ := Kd.at_int Aj.out Aa Ab Ac; cases e606; replace Ab := eq_true Ab; replace Ac := eq_true Ac
       go_wp2
       go_ret
       exact ⟨Z15, Z27⟩
      ·rw [if_neg c6] at H
       have c6b0 : decide ((l1.length : Int) ≤ Aa) = false := decide_eq_false c6; clear c6
       by_cases c7 : Aa < (l1.length : Int)
       ·rw [if_pos c7] at H
        have c7b0 : decide (Aa < (l1.length : Int)) = true := decide_eq_true c7; clear c7; replace H := Option.bind_eq_some_iff.mp H; obtain ⟨Ad, Ap, H⟩ := H; replace H : (if Ad = 0 then (slices_Compare_int_int.l0 k1 l0 l1 l0 (l0.length : Int) (wrap64 (Aa + 1))) else (some Ad)) = some r := H; have A8 := Aside0.mk Ap; clear Ap
        by_cases c9 : Ad = 0
        ·rw [if_pos c9] at H
         have c9b0 : (Ad == 0) = true := beq_iff_eq.mpr c9; have c9b1 : (Ad != 0) = false := bne_eq_false_iff_eq.mpr c9; clear c9; have H' := Aside0.mk H; clear H; have Ab : 0 ≤ (Aa : Int) := of_decide_eq_true Z10; have Ac : Aa < (l0.length : Int) := of_decide_eq_true Z10; obtain ⟨ad606, e606, Ag⟩ := Kd.at_int Aj.out Aa Ab Ac; cases e606; replace Ab := eq_true Ab; replace Ac := eq_true Ac; have Ae : 0 ≤ (Aa : Int) := of_decide_eq_true Z10; have Af : Aa < (l1.length : Int) := of_decide_eq_true Z10; obtain ⟨ad607, e607, Ah⟩ := Kd.at_int Ao.out Aa Ae Af; cases e607; replace Ae := eq_true Ae; replace Af := eq_true Af
         go_wp2_with (first | ((with_reducible refine gate_callee (f := 82) rfl ?_); refine glE (some 26) Tryd.func82 #[.int .i64 (rd l0 Aa), .int .i64 (rd l1 Aa)] ?_; (with_reducible refine (cmp_Compare_int.calls (rd l0 Aa) (rd l1 Aa) Ad _ A8.out).mono ?_); rintro e w' ⟨rfl, ⟨nd, rfl⟩⟩; refine ⟨_, rfl, ?_⟩))
         go_roundg k1
         case measure => have := HK1.out; omega
         case rel => exact ⟨(wrap64 (Aa + 1)), Z15, H', ⟨Z66⟩, Z27⟩
        ·rw [if_neg c9] at H
         have c9b0 : (Ad == 0) = false := beq_eq_false_iff_ne.mpr c9; have c9b1 : (Ad != 0) = true := bne_iff_ne.mpr c9; obtain rfl := Option.some.inj H; have Ab : 0 ≤ (Aa : Int) := of_decide_eq_true Z10; have Ac : Aa < (l0.length : Int) := of_decide_eq_true Z10; obtain ⟨ad606, e606, Ag⟩ := Kd.at_int Aj.out Aa Ab Ac; cases e606; replace Ab := eq_true Ab; replace Ac := eq_true Ac; have Ae : 0 ≤ (Aa : Int) := of_decide_eq_true Z10; have Af : Aa < (l1.length : Int) := of_decide_eq_true Z10; obtain ⟨ad607, e607, Ah⟩ := Kd.at_int Ao.out Aa Ae Af; cases e607; replace Ae := eq_true Ae; replace Af := eq_true Af
         go_wp2_with (first | ((with_reducible refine gate_callee (f := 82) rfl ?_); refine glE (some 26) Tryd.func82 #[.int .i64 (rd l0 Aa), .int .i64 (rd l1 Aa)] ?_; (with_reducible refine (cmp_Compare_int.calls (rd l0 Aa) (rd l1 Aa) Ad _ A8.out).mono ?_); rintro e w' ⟨rfl, ⟨nd, rfl⟩⟩; refine ⟨_, rfl, ?_⟩))
         go_ret
         exact ⟨Z15, Z27⟩
       ·rw [if_neg c7] at H
        exact absurd H (by simp)
     ·rw [if_neg c5] at H
      exact absurd H (by simp)
    ·rw [if_neg c4] at H
     exact absurd H (by simp)
   ·rw [if_neg c3] at H
    have c3b0 : decide (Aa < (l0.length : Int)) = false := decide_eq_false c3; clear c3
    by_cases Ai : (l0.length : Int) < (l1.length : Int)
    ·rw [if_pos Ai] at H
     have c10b0 : decide ((l0.length : Int) < (l1.length : Int)) = true := decide_eq_true Ai; have c10b1 : decide (l0.length < l1.length) = true := decide_eq_true (Int.ofNat_lt.mp Ai); clear Ai; obtain rfl := Option.some.inj H
     go_wp2
     go_ret
     exact ⟨Z15, Z27⟩
    ·rw [if_neg Ai] at H
     have c10b0 : decide ((l0.length : Int) < (l1.length : Int)) = false := decide_eq_false Ai; have c10b1 : decide (l0.length < l1.length) = false := decide_eq_false (fun h => Ai (Int.ofNat_lt.mpr h)); clear Ai; obtain rfl := Option.some.inj H
     go_wp2
     go_ret
     exact ⟨Z15, Z27⟩
mutual
def impl_FewestFor.j0 : Nat → List (S26) → Int → Bool → Option (List Int × Bool)
 | 0, _, _, _ => none
 | k + 1, x0, x1, x21 => if x21 = true then (some (([] : List Int), false)) else (impl_FewestFor.l0 k x0 x1 (([] : List Int)) false (shl .i64 1 (x0.length : Int)) 0)
def impl_FewestFor.l0 : Nat → List (S26) → Int → List Int → Bool → Int → Int → Option (List Int × Bool)
 | 0, _, _, _, _, _, _ => none
 | k + 1, x0, x1, x6, x7, x25, x26 => if x26 < x25 then (impl_FewestFor.l1 k x0 x1 x6 x7 x26 (([] : List Int)) 0 x25 x26 x0 (x0.length : Int) 0) else (some (x6, x7))
def impl_FewestFor.l1 : Nat → List (S26) → Int → List Int → Bool → Int → List Int → Int → Int → Int → List (S26) → Int → Int → Option (List Int × Bool)
 | 0, _, _, _, _, _, _, _, _, _, _, _, _ => none
 | k + 1, x0, x1, x6, x7, x8, x9, x10, x25, x26, x30, x31, x32 => if x32 < x31 then (if 0 ≤ x32 then (if x32 < (x30.length : Int) then (if (Go.bits .and .i64 (shr .i64 x8 x32) 1) = 1 then (if x9.length < 17592186044416 then (impl_FewestFor.l1 k x0 x1 x6 x7 x8 (x9 ++ [(rd_T26 x30 x32).f0]) (Go.bits .or .i64 x10 ((rd_T26 x30 x32).f2)) x25 x26 x30 x31 (wrap64 (x32 + 1))) else (none)) else (impl_FewestFor.l1 k x0 x1 x6 x7 x8 x9 x10 x25 x26 x30 x31 (wrap64 (x32 + 1)))) else (none)) else (none)) else (if x7 = true then (if (x9.length : Int) < (x6.length : Int) then (if (Go.bits .and .i64 x10 x1) = x1 then (impl_FewestFor.l0 k x0 x1 x9 true x25 (wrap64 (x26 + 1))) else (impl_FewestFor.l0 k x0 x1 x6 x7 x25 (wrap64 (x26 + 1)))) else (if (x9.length : Int) = (x6.length : Int) then ((slices_Compare_int_int.f k x9 x6).bind fun t622 => (if (Go.bits .and .i64 x10 x1) = x1 then (if t622 < 0 then (impl_FewestFor.l0 k x0 x1 x9 true x25 (wrap64 (x26 + 1))) else (impl_FewestFor.l0 k x0 x1 x6 x7 x25 (wrap64 (x26 + 1)))) else (impl_FewestFor.l0 k x0 x1 x6 x7 x25 (wrap64 (x26 + 1))))) else (if (Go.bits .and .i64 x10 x1) = x1 then (impl_FewestFor.l0 k x0 x1 x6 x7 x25 (wrap64 (x26 + 1))) else (impl_FewestFor.l0 k x0 x1 x6 x7 x25 (wrap64 (x26 + 1)))))) else (if (Go.bits .and .i64 x10 x1) = x1 then (impl_FewestFor.l0 k x0 x1 x9 true x25 (wrap64 (x26 + 1))) else (impl_FewestFor.l0 k x0 x1 x6 x7 x25 (wrap64 (x26 + 1)))))
end
def impl_FewestFor.f (k : Nat) (l0 : List (S26)) (a1 : Int) : Option (List Int × Bool) := (impl_AreWeavers.f l0).bind fun t609 => (if t609 = true then ((impl_areSkills.f a1).bind fun t610 => (impl_FewestFor.j0 k l0 a1 (!t610))) else (impl_FewestFor.j0 k l0 a1 true))
theorem impl_FewestFor.calls (k : Nat) (A0 : Option Addr) (c0 : Nat) (l0 : List (S26)) (a1 : Int) (r1 : List Int) (r2 : Bool) (w : World) (Di : Kd.C k26 w A0 l0.length l0) (Dj : l0.length ≤ c0) (h : impl_FewestFor.f k l0 a1 = some (r1, r2)) :
  Calls Tryd.prog 44 #[.slice A0 l0.length c0, .int .i64 a1] w fun e w' => ∃ v0_ : Value, e = .returned (.tuple #[v0_, .bool r2]) ∧ Kd.R (Kd.int .i64) 3 w' w.heap.size (fun _ => True) v0_ r1 ∧ Below w.heap.size w w' := by
 have hu26 := Tryd.underlying26; have B2 := Aside0.mk Di; have Dk := Aside0.mk Dj; clear Di Dj; have HB := aM (Below.refl w.heap.size w); have H : ((impl_AreWeavers.f l0).bind fun Bd => (if Bd = true then ((impl_areSkills.f a1).bind fun Ao => (impl_FewestFor.j0 k l0 a1 (!Ao))) else (impl_FewestFor.j0 k l0 a1 true))) = some (r1, r2) := h; clear h; have C2 := Aside0.mk H; clear H
 go_enter Tryd.func44, Tryd.ntmps44
 go_upto_region 1 with (fail)
 go_cut [21] (fun Dn wc => ∃ (kq : Nat) (Az : Bool), Dn = .bool Az ∧ Aside0 (impl_FewestFor.j0 kq l0 a1 Az = some (r1, r2)) ∧ Aside0 (kq ≤ k) ∧ Aside0 (Below w.heap.size w wc))
 case first =>
  have H := C2.out; clear C2; replace H := Option.bind_eq_some_iff.mp H; obtain ⟨Bd, Dl, H⟩ := H; replace H : (if Bd = true then ((impl_areSkills.f a1).bind fun Ao => (impl_FewestFor.j0 k l0 a1 (!Ao))) else (impl_FewestFor.j0 k l0 a1 true)) = some (r1, r2) := H; have A4 := Aside0.mk Dl; clear Dl
  by_cases c5 : Bd = true
  ·subst c5
   have H1 : ((impl_areSkills.f a1).bind fun Ao => (impl_FewestFor.j0 k l0 a1 (!Ao))) = some (r1, r2) := by rw [if_pos rfl] at H; exact H
   clear H; have H := H1; clear H1; replace H := Option.bind_eq_some_iff.mp H; obtain ⟨Ao, Dm, H⟩ := H; replace H : (impl_FewestFor.j0 k l0 a1 (!Ao)) = some (r1, r2) := H; have A6 := Aside0.mk Dm; clear Dm; have H' := Aside0.mk H; clear H
   go_wp2_with (first | ((with_reducible refine gate_callee (f := 22) rfl ?_); refine glE (some 15) Tryd.func22 #[.slice A0 l0.length c0] ?_; (with_reducible refine (impl_AreWeavers.calls _ _ l0 true _ ?side1 ?side2 A4.out).mono ?_); (case side1 => exact Z80); (case side2 => exact Dk.out); rintro e w7 ⟨rfl, hb⟩; refine ⟨_, rfl, ?_⟩; replace HB := hbS Z0 hb; (try clear hb)) | (go_at_call 59; (with_reducible refine (impl_areSkills.calls a1 Ao _ A6.out).mono ?_); rintro e w' ⟨rfl, ⟨nd, rfl⟩⟩))
   go_meet
   case rel => exact ⟨_, (!Ao), Z15, H', ⟨Z69⟩, ⟨Z0⟩⟩
  ·replace c5 := Bool.eq_false_iff.mpr c5
   subst c5
   have H1 : (impl_FewestFor.j0 k l0 a1 true) = some (r1, r2) := by rw [if_neg (show ¬ (false = true) by decide)] at H; exact H
   clear H; have H := H1; clear H1; have H' := Aside0.mk H; clear H
   go_wp2_with (first | ((with_reducible refine gate_callee (f := 22) rfl ?_); refine glE (some 15) Tryd.func22 #[.slice A0 l0.length c0] ?_; (with_reducible refine (impl_AreWeavers.calls _ _ l0 false _ ?side1 ?side2 A4.out).mono ?_); (case side1 => exact Z80); (case side2 => exact Dk.out); rintro e w8 ⟨rfl, hb⟩; refine ⟨_, rfl, ?_⟩; replace HB := hbS Z0 hb; (try clear hb)))
   go_meet
   case rel => exact ⟨_, (true), Z15, H', ⟨Z69⟩, ⟨Z0⟩⟩
 case rest =>
  clear C2; (try clear c2); (try clear p2); (try clear c4); (try clear c5); obtain ⟨kq, Az, rfl, HA, HJ2, HB⟩ := hcut; cases kq with
  | zero => exact absurd HA.out (by simp [impl_FewestFor.j0])
  | succ Br =>
   have H := HA.out; clear HA
   simp only [impl_FewestFor.j0] at H
   by_cases c9 : Az = true
   ·subst c9
    have H1 : (some (([] : List Int), false)) = some (r1, r2) := by rw [if_pos rfl] at H; exact H
    clear H; have H := H1; clear H1
    simp only [Option.some.injEq, Prod.mk.injEq] at H
    obtain ⟨rfl, rfl⟩ := H
    go_wp2
    go_ret2
    exact ⟨_, Z14, Z47, Z0⟩
   ·replace c9 := Bool.eq_false_iff.mpr c9
    subst c9
    have H1 : (impl_FewestFor.l0 Br l0 a1 (([] : List Int)) false (shl .i64 1 (l0.length : Int)) 0) = some (r1, r2) := by rw [if_neg (show ¬ (false = true) by decide)] at H; exact H
    clear H; have H := H1; clear H1; obtain ⟨Bi, Ar⟩ : ∃ y_ : List Int, y_ = (([] : List Int)) := ⟨_, rfl⟩
    replace H : (impl_FewestFor.l0 Br l0 a1 Bi false (shl .i64 1 (l0.length : Int)) 0) = some (r1, r2) := by first | (rw [Ar]; with_reducible exact H) | (have H2_ := (Option.bind_some _ _).symm.trans H; rw [Ar]; with_reducible exact H2_) | (have H2_ := (Option.bind_some _ _).symm.trans H; with_reducible exact H2_) | with_reducible exact H | (rw [Ar]; exact H) | exact H
    have Bf := Aside0.mk Ar; clear Ar; obtain ⟨ji10, hji10⟩ : ∃ j_ : Int, (shl .i64 1 (l0.length : Int)) = j_ := ⟨_, rfl⟩
    replace H : (impl_FewestFor.l0 Br l0 a1 Bi false ji10 0) = some (r1, r2) := by first | (rw [hji10] at H; exact H) | (simp only [hji10] at H ⊢; exact H)
    have hji10_ : (IntKind.i64.wrap (1 * 2 ^ min (l0.length : Int).toNat 64)) = ji10 := hji10; have hji10z : (l0.length : Int) ≤ 64 → (IntKind.i64.wrap (1 * 2 ^ (l0.length : Int).toNat)) = ji10 := shl_small hji10; have hji10p : (IntKind.i64.wrap (1 * 2 ^ min l0.length 64)) = ji10 := hji10_; have hji10q : (l0.length : Int) ≤ 64 → (IntKind.i64.wrap (1 * 2 ^ l0.length)) = ji10 := hji10z
    have hji10r : (IntKind.i64.wrap (2 ^ min l0.length 64)) = ji10 := by have h_ := hji10p; rw [Int.one_mul] at h_; exact h_
    have hji10s : (l0.length : Int) ≤ 64 → (IntKind.i64.wrap (2 ^ l0.length)) = ji10 := fun hle_ => by have h_ := hji10q hle_; rw [Int.one_mul] at h_; exact h_
    have hji10u : (IntKind.i64.wrap (2 ^ min (l0.length : Int).toNat 64)) = ji10 := by have h_ := hji10_; rw [Int.one_mul] at h_; exact h_
    have hji10v : (l0.length : Int) ≤ 64 → (IntKind.i64.wrap (2 ^ (l0.length : Int).toNat)) = ji10 := fun hle_ => by have h_ := hji10z hle_; rw [Int.one_mul] at h_; exact h_
    have hji10y : (wrap64 (1 * 2 ^ min (l0.length : Int).toNat 64)) = ji10 := (i64_w _).symm.trans hji10_
    have hji10x : (l0.length : Int) ≤ 64 → (wrap64 (1 * 2 ^ (l0.length : Int).toNat)) = ji10 := fun h_ => (i64_w _).symm.trans (hji10z h_)
    have H' := Aside0.mk H; clear H
    go_wp2_with (first | ((with_reducible refine gate_dst (N := 22) rfl ?_); (try (refine gate_guard (by rfl) ?_; dsimp only)); refine Kd.R_lit (Kd.int .i64) _ 3 ?hg (N := 22) ?hd (xs := ([] : List Int)) (inner := []) (ok := fun _ => True) (okp := fun _ => True) ?hr ?hp (fun _ hk => hk) trivial (Below.refl _ _) (Nat.le_refl _) (by simp) ?_; (case hd => rfl); (case hg => rfl); (case hr => first | (go_simp; done) | (go_simp; rfl)); (case hp => exact (Reps.none _ _)); intro Dp En Bb hb hg_ hnew_; clear hg_ hnew_; (first | rw [← Bf.out] at Bb | (simp only [Int.reduceToNat] at Bb; rw [← Bf.out] at Bb)); have Bs := aM (Kd.R_lower Bb (below_size Z0)); replace HB := hbS Z0 hb; clear hb Bb))
    go_loopg [6, 7, 26] Br (fun kq v6 v7 Dq w' => ∃ (Ae : List Int) (Ap : Bool) (Ab : Int), v7 = .bool Ap ∧ Dq = .int .i64 Ab ∧ Aside0 (impl_FewestFor.l0 kq l0 a1 Ae Ap ji10 Ab = some (r1, r2)) ∧ Aside0 (kq ≤ Br) ∧ Aside0 (Kd.R (Kd.int .i64) 3 w' w.heap.size (fun _ => True) v6 Ae) ∧ Aside0 (Below w.heap.size w w'))
    case atStart => exact ⟨(Bi), (false), (0), Z15, Z15, H', ⟨Nat.le_refl _⟩, ⟨by (with_reducible repeat (first | apply Kd.R_alloc | apply Kd.R_drewN | apply Kd.R_drew)); exact Bs.out⟩, ⟨Z0⟩⟩
    case round =>
     clear H'; (try clear c2); (try clear p2); (try clear c4); (try clear c5); (try clear p6); (try clear c9); (try clear p2); obtain ⟨Ae, Ap, Ab, rfl, rfl, HA, HK2, Ag, HB⟩ := hrel; cases gk with
     | zero => exact absurd HA.out (by simp [impl_FewestFor.l0])
     | succ k2 =>
      have H := HA.out; clear HA
      simp only [impl_FewestFor.l0] at H
      by_cases Bj : Ab < ji10
      ·rw [if_pos Bj] at H
       have c13b0 : decide (Ab < ji10) = true := decide_eq_true Bj; clear Bj; obtain ⟨Bt, Au⟩ : ∃ y_ : List Int, y_ = (([] : List Int)) := ⟨_, rfl⟩
       replace H : (impl_FewestFor.l1 k2 l0 a1 Ae Ap Ab Bt 0 ji10 Ab l0 (l0.length : Int) 0) = some (r1, r2) := by first | (rw [Au]; with_reducible exact H) | (have H2_ := (Option.bind_some _ _).symm.trans H; rw [Au]; with_reducible exact H2_) | (have H2_ := (Option.bind_some _ _).symm.trans H; with_reducible exact H2_) | with_reducible exact H | (rw [Au]; exact H) | exact H
       have Bg := Aside0.mk Au; clear Au; have H' := Aside0.mk H; clear H
       go_wp2_with (first | ((with_reducible refine gate_dst (N := 29) rfl ?_); (try (refine gate_guard (by rfl) ?_; dsimp only)); refine Kd.R_lit (Kd.int .i64) _ 3 ?hg (N := 29) ?hd (xs := ([] : List Int)) (inner := []) (ok := fun _ => True) (okp := fun _ => True) ?hr ?hp (fun _ hk => hk) trivial (Below.refl _ _) (Nat.le_refl _) (by simp) ?_; (case hd => rfl); (case hg => rfl); (case hr => first | (go_simp; done) | (go_simp; rfl)); (case hp => exact (Reps.none _ _)); intro Dr Eo Ba hb hg_ hnew_; clear hg_ hnew_; (first | rw [← Bg.out] at Ba | (simp only [Int.reduceToNat] at Ba; rw [← Bg.out] at Ba)); have Bu := aM (Kd.R_lower (Kd.R_new' Ba (Kd.R_lt Z12)) (below_size Z0)); replace Ag := aM (Kd.R_elder' Z12 (Kd.R_base Ba) hb); replace HB := hbS Z0 hb; clear hb Ba))
       go_loopg [9, 10, 32] k2 (fun kq v9 Ds Dt w' => ∃ (Af : List Int) (Ac : Int) (Aa : Int), Ds = .int .i64 Ac ∧ Dt = .int .i64 Aa ∧ Aside0 (impl_FewestFor.l1 kq l0 a1 Ae Ap Ab Af Ac ji10 Ab l0 (l0.length : Int) Aa = some (r1, r2)) ∧ Aside0 (kq ≤ k2) ∧ Aside0 (Kd.R (Kd.int .i64) 3 w' w.heap.size (fun k_ => nV k_ v9) u6 Ae) ∧ Aside0 (Kd.R (Kd.int .i64) 3 w' w.heap.size (fun k_ => nV k_ u6) v9 Af) ∧ Aside0 (Below w.heap.size w w'))
       case atStart => exact ⟨(Bt), (0), (0), Z15, Z15, H', ⟨Nat.le_refl _⟩, ⟨Z95⟩, ⟨by (with_reducible repeat (first | apply Kd.R_alloc | apply Kd.R_drewN | apply Kd.R_drew)); exact Kd.R_mono Bu.out (fun _ hk => hk.2)⟩, ⟨Z0⟩⟩
       case round =>
        clear H'; (try clear c1); (try clear c2); (try clear p2); (try clear c4); (try clear c5); (try clear p6); (try clear c9); (try clear Bj); (try clear c13b0); (try clear p2); (try clear p6); obtain ⟨Af, Ac, Aa, rfl, rfl, HA, HK3, Ag, Ai, HB⟩ := hrel; cases gk with
        | zero => exact absurd HA.out (by simp [impl_FewestFor.l1])
        | succ k3 =>
         have H := HA.out; clear HA
         simp only [impl_FewestFor.l1] at H
         by_cases Bp : Aa < (l0.length : Int)
         ·rw [if_pos Bp] at H
          have c16b0 : decide (Aa < (l0.length : Int)) = true := decide_eq_true Bp; clear Bp
          by_cases B3 : 0 ≤ Aa
          ·rw [if_pos B3] at H
           have c17b0 : decide (0 ≤ Aa) = true := decide_eq_true B3; clear B3
           by_cases B4 : Aa < (l0.length : Int)
           ·rw [if_pos B4] at H
            have c18b0 : decide (Aa < (l0.length : Int)) = true := decide_eq_true B4; clear B4; have c19b0 := eq_true (of_decide_eq_true Z10 : 0 ≤ Aa); obtain ⟨ji20, hji20⟩ : ∃ j_ : Int, (shr .i64 Ab Aa) = j_ := ⟨_, rfl⟩
            replace H : (if (Go.bits .and .i64 (ji20) 1) = 1 then (if Af.length < 17592186044416 then (impl_FewestFor.l1 k3 l0 a1 Ae Ap Ab (Af ++ [(rd_T26 l0 Aa).f0]) (Go.bits .or .i64 Ac ((rd_T26 l0 Aa).f2)) ji10 Ab l0 (l0.length : Int) (wrap64 (Aa + 1))) else (none)) else (impl_FewestFor.l1 k3 l0 a1 Ae Ap Ab Af Ac ji10 Ab l0 (l0.length : Int) (wrap64 (Aa + 1)))) = some (r1, r2) := by first | (rw [hji20] at H; exact H) | (simp only [hji20] at H ⊢; exact H)
            have hji20_ : (Ab / 2 ^ min Aa.toNat 64) = ji20 := hji20; have hji20z : Aa ≤ 64 → (Ab / 2 ^ Aa.toNat) = ji20 := shr_small hji20
            by_cases Bk : (Go.bits .and .i64 (ji20) 1) = 1
            ·rw [if_pos Bk] at H
             have c21b0 : ((Go.bits .and .i64 (ji20) 1) == 1) = true := beq_iff_eq.mpr Bk; have c21b1 : ((Go.bits .and .i64 (ji20) 1) != 1) = false := bne_eq_false_iff_eq.mpr Bk; clear Bk
             by_cases B6 : Af.length < 17592186044416
             ·rw [if_pos B6] at H
              have LMc22 := Aside0.mk B6; clear B6; obtain ⟨Bv, Av⟩ : ∃ y_ : List Int, y_ = (Af ++ [(rd_T26 l0 Aa).f0]) := ⟨_, rfl⟩
              replace H : (impl_FewestFor.l1 k3 l0 a1 Ae Ap Ab Bv (Go.bits .or .i64 Ac ((rd_T26 l0 Aa).f2)) ji10 Ab l0 (l0.length : Int) (wrap64 (Aa + 1))) = some (r1, r2) := by first | (rw [Av]; with_reducible exact H) | (have H2_ := (Option.bind_some _ _).symm.trans H; rw [Av]; with_reducible exact H2_) | (have H2_ := (Option.bind_some _ _).symm.trans H; with_reducible exact H2_) | with_reducible exact H | (rw [Av]; exact H) | exact H
              have Bw := Aside0.mk Av; clear Av; have H' := Aside0.mk H; clear H; have Ax : 0 ≤ (Aa : Int) := of_decide_eq_true Z10; have Ay : Aa < (l0.length : Int) := of_decide_eq_true Z10; obtain ⟨ad617, e617, Aj, Ak, Al, Am, An⟩ := at_T26 B2.out Aa Ax Ay; cases e617; replace Aj := (HB.out.cell (World.block_lt_of_cell? w _ Aj)).trans Aj; replace Ak := (HB.out.cell (World.block_lt_of_cell? w _ Ak)).trans Ak; replace Al := (HB.out.cell (World.block_lt_of_cell? w _ Al)).trans Al; replace Am := (HB.out.cell (World.block_lt_of_cell? w _ Am)).trans Am; replace An := (HB.out.cell (World.block_lt_of_cell? w _ An)).trans An; replace Ax := eq_true Ax; replace Ay := eq_true Ay
              go_wp2_with (first | ((with_reducible refine gate_dst (N := 12) rfl ?_); (try (refine gate_guard (by rfl) ?_; dsimp only)); refine bxE 12 #[.int .i64 0, .string (⟨#[]⟩ : ByteArray), .int .i64 0, .int .i64 0, .int .i64 0] 26 ?_; intro Ad hg Ep hbox hb; replace Ag := roB Ag hb; replace Ai := roB Ai hb; have Ah := aM (hbox); have Bx := gwS hg Z0; have Aw := gwS hg Z0; replace HB := hbS Z0 hb; clear hb hbox hg; obtain ⟨B7, B8, B9, Ca, Cb⟩ := bz5 Ah; obtain ⟨Cc, Cd, Ce, Cf, Cg⟩ := fz5 Ah) | ((with_reducible refine gate_builtin (b := .append) (xs := #[.tmp 42, .tmp 45]) rfl ?_); (try (refine gate_guard (by rfl) ?_; dsimp only)); at_builtin; refine Kd.R_append (Kd.int .i64) (w0 := w) w.heap.size rfl (.tmp 42) (.tmp 45) 41 3 (.int .i64 0) 8 rfl Tryd.underlying41 info3 rfl (by decide) (by omega) u9 Af ((rd_T26 l0 Aa).f0) [.int .i64 ((rd_T26 l0 Aa).f0)] (fun k_ => nV k_ u6) (fun _ => False) rfl (by first | (go_simp; done) | (go_simp; rfl)) ?aP (fun _ hk => hk.elim) ?aF ?aO ?aB ?aS ?aL ?_; (case aP => exact rfl); (case aB => exact Z56); (case aF => exact (fun k_ hk => Kd.fresh' (Kd.R_lt (by (with_reducible repeat (first | apply Kd.R_alloc | apply Kd.R_drewN | apply Kd.R_drew)); exact (Kd.R_mono (Kd.R_far (p := ⟨Ad, 4, none⟩) (Kd.R_far (p := ⟨Ad, 3, none⟩) (Kd.R_far (p := ⟨Ad, 2, none⟩) (Kd.R_far (p := ⟨Ad, 1, none⟩) (Kd.R_far (p := ⟨Ad, 0, none⟩) (Kd.R_types Ag.out Ah.out (by decide)) (fun _ hk => hk.2) (.int .i64 ((rd_T26 l0 Aa).f0))) (fun _ hk => hk.2) (.string ((rd_T26 l0 Aa).f1))) (fun _ hk => hk.2) (.int .i64 ((rd_T26 l0 Aa).f2))) (fun _ hk => hk.2) (.int .i64 ((rd_T26 l0 Aa).f3))) (fun _ hk => hk.2) (.int .i64 ((rd_T26 l0 Aa).f4))) (fun _ h_ => h_.1)))) k_ hk)); (case aO => exact (by (with_reducible repeat (first | apply Kd.R_alloc | apply Kd.R_drewN | apply Kd.R_drew)); exact Kd.R_mono (Kd.R_far (p := ⟨Ad, 4, none⟩) (Kd.R_far (p := ⟨Ad, 3, none⟩) (Kd.R_far (p := ⟨Ad, 2, none⟩) (Kd.R_far (p := ⟨Ad, 1, none⟩) (Kd.R_far (p := ⟨Ad, 0, none⟩) (Kd.R_types Ai.out Ah.out (by decide)) (fun _ hk => hk.2) (.int .i64 ((rd_T26 l0 Aa).f0))) (fun _ hk => hk.2) (.string ((rd_T26 l0 Aa).f1))) (fun _ hk => hk.2) (.int .i64 ((rd_T26 l0 Aa).f2))) (fun _ hk => hk.2) (.int .i64 ((rd_T26 l0 Aa).f3))) (fun _ hk => hk.2) (.int .i64 ((rd_T26 l0 Aa).f4))) (fun _ hk => hk.1))); (case aS => exact (below_size Z56)); (case aL => have := LMc22.out; omega); intro Du Bz ho hb hg hat; rw [← Bw.out] at ho; replace Ag := aM (Kd.R_after (ok := (fun _ => True)) (by (with_reducible repeat (first | apply Kd.R_alloc | apply Kd.R_drewN | apply Kd.R_drew)); exact Kd.R_mono (Kd.R_far (p := ⟨Ad, 4, none⟩) (Kd.R_far (p := ⟨Ad, 3, none⟩) (Kd.R_far (p := ⟨Ad, 2, none⟩) (Kd.R_far (p := ⟨Ad, 1, none⟩) (Kd.R_far (p := ⟨Ad, 0, none⟩) (Kd.R_types Ag.out Ah.out (by decide)) (fun _ hk => hk.2) (.int .i64 ((rd_T26 l0 Aa).f0))) (fun _ hk => hk.2) (.string ((rd_T26 l0 Aa).f1))) (fun _ hk => hk.2) (.int .i64 ((rd_T26 l0 Aa).f2))) (fun _ hk => hk.2) (.int .i64 ((rd_T26 l0 Aa).f3))) (fun _ hk => hk.2) (.int .i64 ((rd_T26 l0 Aa).f4))) (fun _ hk => ⟨trivial, hk.1⟩)) hg hat); replace Ah := aM (blk_grown (g := Ad) (o := .cells #[.int .i64 ((rd_T26 l0 Aa).f0), .string ((rd_T26 l0 Aa).f1), .int .i64 ((rd_T26 l0 Aa).f2), .int .i64 ((rd_T26 l0 Aa).f3), .int .i64 ((rd_T26 l0 Aa).f4)] 26 (0, 0)) (by (with_reducible repeat (first | refine blk_drewN ?_ _ | refine blk_drew ?_ | refine blk_alloc ?_ _)); refine blk_put (cs := #[.int .i64 ((rd_T26 l0 Aa).f0), .string ((rd_T26 l0 Aa).f1), .int .i64 ((rd_T26 l0 Aa).f2), .int .i64 ((rd_T26 l0 Aa).f3), .int .i64 0]) ?_ 4 _ rfl; (with_reducible repeat (first | refine blk_drewN ?_ _ | refine blk_drew ?_ | refine blk_alloc ?_ _)); refine blk_put (cs := #[.int .i64 ((rd_T26 l0 Aa).f0), .string ((rd_T26 l0 Aa).f1), .int .i64 ((rd_T26 l0 Aa).f2), .int .i64 0, .int .i64 0]) ?_ 3 _ rfl; (with_reducible repeat (first | refine blk_drewN ?_ _ | refine blk_drew ?_ | refine blk_alloc ?_ _)); refine blk_put (cs := #[.int .i64 ((rd_T26 l0 Aa).f0), .string ((rd_T26 l0 Aa).f1), .int .i64 0, .int .i64 0, .int .i64 0]) ?_ 2 _ rfl; (with_reducible repeat (first | refine blk_drewN ?_ _ | refine blk_drew ?_ | refine blk_alloc ?_ _)); refine blk_put (cs := #[.int .i64 ((rd_T26 l0 Aa).f0), .string (⟨#[]⟩ : ByteArray), .int .i64 0, .int .i64 0, .int .i64 0]) ?_ 1 _ rfl; (with_reducible repeat (first | refine blk_drewN ?_ _ | refine blk_drew ?_ | refine blk_alloc ?_ _)); refine blk_put (cs := #[.int .i64 0, .string (⟨#[]⟩ : ByteArray), .int .i64 0, .int .i64 0, .int .i64 0]) ?_ 0 _ rfl; (with_reducible repeat (first | refine blk_drewN ?_ _ | refine blk_drew ?_ | refine blk_alloc ?_ _)); exact Ah.out) hg (Kd.R_ne Ai.out Ah.out (by decide))); replace HB := aM (hb); have B0 := aM (ho); clear Ai; clear ho hb hg hat; have Ch : Bz.cell? ⟨Ad, 0, none⟩ = some (.int .i64 ((rd_T26 l0 Aa).f0)) := (blk_cell Ah.out 0).trans rfl; have Ci : Bz.cell? ⟨Ad, 1, none⟩ = some (.string ((rd_T26 l0 Aa).f1)) := (blk_cell Ah.out 1).trans rfl; have Cj : Bz.cell? ⟨Ad, 2, none⟩ = some (.int .i64 ((rd_T26 l0 Aa).f2)) := (blk_cell Ah.out 2).trans rfl; have Ck : Bz.cell? ⟨Ad, 3, none⟩ = some (.int .i64 ((rd_T26 l0 Aa).f3)) := (blk_cell Ah.out 3).trans rfl; have Cl : Bz.cell? ⟨Ad, 4, none⟩ = some (.int .i64 ((rd_T26 l0 Aa).f4)) := (blk_cell Ah.out 4).trans rfl; obtain ⟨Cm, Cn, Co, Cp, Cq⟩ := fz5 Ah))
              go_roundg k3
              case measure => have := HJ2.out; have := HK2.out; have := HK3.out; omega
              case rel => exact ⟨(Bv), (Go.bits .or .i64 Ac ((rd_T26 l0 Aa).f2)), (wrap64 (Aa + 1)), Z15, Z15, H', ⟨Z59⟩, ⟨Z95⟩, ⟨by (with_reducible repeat (first | apply Kd.R_alloc | apply Kd.R_drewN | apply Kd.R_drew)); exact B0.out⟩, ⟨Z56⟩⟩
             ·rw [if_neg B6] at H
              exact absurd H (by simp)
            ·rw [if_neg Bk] at H
             have c21b0 : ((Go.bits .and .i64 (ji20) 1) == 1) = false := beq_eq_false_iff_ne.mpr Bk; have c21b1 : ((Go.bits .and .i64 (ji20) 1) != 1) = true := bne_iff_ne.mpr Bk; have H' := Aside0.mk H; clear H; have Ax : 0 ≤ (Aa : Int) := of_decide_eq_true Z10; have Ay : Aa < (l0.length : Int) := of_decide_eq_true Z10; obtain ⟨ad617, e617, Aj, Ak, Al, Am, An⟩ := at_T26 B2.out Aa Ax Ay; cases e617; replace Aj := (HB.out.cell (World.block_lt_of_cell? w _ Aj)).trans Aj; replace Ak := (HB.out.cell (World.block_lt_of_cell? w _ Ak)).trans Ak; replace Al := (HB.out.cell (World.block_lt_of_cell? w _ Al)).trans Al; replace Am := (HB.out.cell (World.block_lt_of_cell? w _ Am)).trans Am; replace An := (HB.out.cell (World.block_lt_of_cell? w _ An)).trans An; replace Ax := eq_true Ax; replace Ay := eq_true Ay
             go_wp2_with (first | ((with_reducible refine gate_dst (N := 12) rfl ?_); (try (refine gate_guard (by rfl) ?_; dsimp only)); refine bxE 12 #[.int .i64 0, .string (⟨#[]⟩ : ByteArray), .int .i64 0, .int .i64 0, .int .i64 0] 26 ?_; intro Ad hg Er hbox hb; replace Ag := roB Ag hb; replace Ai := roB Ai hb; have Ah := aM (hbox); have Bx := gwS hg Z0; have Aw := gwS hg Z0; replace HB := hbS Z0 hb; clear hb hbox hg; obtain ⟨Cr, Cs, Ct, Cu, Cv⟩ := bz5 Ah; obtain ⟨Cw, Cx, Cy, Cz, C0⟩ := fz5 Ah))
             go_roundg k3
             case measure => have := HJ2.out; have := HK2.out; have := HK3.out; omega
             case rel => exact ⟨(Af), (Ac), (wrap64 (Aa + 1)), Z15, Z15, H', ⟨Z59⟩, ⟨by (with_reducible repeat (first | apply Kd.R_alloc | apply Kd.R_drewN | apply Kd.R_drew)); exact Kd.R_mono (Kd.R_far (p := ⟨Ad, 4, none⟩) (Kd.R_far (p := ⟨Ad, 3, none⟩) (Kd.R_far (p := ⟨Ad, 2, none⟩) (Kd.R_far (p := ⟨Ad, 1, none⟩) (Kd.R_far (p := ⟨Ad, 0, none⟩) (Kd.R_types Ag.out Ah.out (by decide)) (fun _ hk => hk.2) (.int .i64 ((rd_T26 l0 Aa).f0))) (fun _ hk => hk.2) (.string ((rd_T26 l0 Aa).f1))) (fun _ hk => hk.2) (.int .i64 ((rd_T26 l0 Aa).f2))) (fun _ hk => hk.2) (.int .i64 ((rd_T26 l0 Aa).f3))) (fun _ hk => hk.2) (.int .i64 ((rd_T26 l0 Aa).f4))) (fun _ hk => hk.1)⟩, ⟨by (with_reducible repeat (first | apply Kd.R_alloc | apply Kd.R_drewN | apply Kd.R_drew)); exact Kd.R_mono (Kd.R_far (p := ⟨Ad, 4, none⟩) (Kd.R_far (p := ⟨Ad, 3, none⟩) (Kd.R_far (p := ⟨Ad, 2, none⟩) (Kd.R_far (p := ⟨Ad, 1, none⟩) (Kd.R_far (p := ⟨Ad, 0, none⟩) (Kd.R_types Ai.out Ah.out (by decide)) (fun _ hk => hk.2) (.int .i64 ((rd_T26 l0 Aa).f0))) (fun _ hk => hk.2) (.string ((rd_T26 l0 Aa).f1))) (fun _ hk => hk.2) (.int .i64 ((rd_T26 l0 Aa).f2))) (fun _ hk => hk.2) (.int .i64 ((rd_T26 l0 Aa).f3))) (fun _ hk => hk.2) (.int .i64 ((rd_T26 l0 Aa).f4))) (fun _ hk => hk.1)⟩, ⟨Z56⟩⟩
           ·rw [if_neg B4] at H
            exact absurd H (by simp)
          ·rw [if_neg B3] at H
           exact absurd H (by simp)
         ·rw [if_neg Bp] at H
          have c16b0 : decide (Aa < (l0.length : Int)) = false := decide_eq_false Bp; clear Bp
          by_cases C1 : Ap = true
          ·subst C1
           have H1 : (if (Af.length : Int) < (Ae.length : Int) then (if (Go.bits .and .i64 Ac a1) = a1 then (impl_FewestFor.l0 k3 l0 a1 Af true ji10 (wrap64 (Ab + 1))) else (impl_FewestFor.l0 k3 l0 a1 Ae true ji10 (wrap64 (Ab + 1)))) else (if (Af.length : Int) = (Ae.length : Int) then ((slices_Compare_int_int.f k3 Af Ae).bind fun Aq => (if (Go.bits .and .i64 Ac a1) = a1 then (if Aq < 0 then (impl_FewestFor.l0 k3 l0 a1 Af true ji10 (wrap64 (Ab + 1))) else (impl_FewestFor.l0 k3 l0 a1 Ae true ji10 (wrap64 (Ab + 1)))) else (impl_FewestFor.l0 k3 l0 a1 Ae true ji10 (wrap64 (Ab + 1))))) else (if (Go.bits .and .i64 Ac a1) = a1 then (impl_FewestFor.l0 k3 l0 a1 Ae true ji10 (wrap64 (Ab + 1))) else (impl_FewestFor.l0 k3 l0 a1 Ae true ji10 (wrap64 (Ab + 1)))))) = some (r1, r2) := by rw [if_pos rfl] at H; exact H
           clear H; have H := H1; clear H1
           by_cases Bh : (Af.length : Int) < (Ae.length : Int)
           ·rw [if_pos Bh] at H
            have c30b0 : decide ((Af.length : Int) < (Ae.length : Int)) = true := decide_eq_true Bh; have c30b1 : decide (Af.length < Ae.length) = true := decide_eq_true (Int.ofNat_lt.mp Bh); clear Bh
            by_cases Bl : (Go.bits .and .i64 Ac a1) = a1
            ·rw [if_pos Bl] at H
             have c31b0 : ((Go.bits .and .i64 Ac a1) == a1) = true := beq_iff_eq.mpr Bl; have c31b1 : ((Go.bits .and .i64 Ac a1) != a1) = false := bne_eq_false_iff_eq.mpr Bl; clear Bl; have H' := Aside0.mk H; clear H; obtain ⟨Dv, Dw, C3⟩ := Kd.R_slice Ai.out; subst C3; obtain ⟨Dx, Dy, C4⟩ := Kd.R_slice Ag.out; subst C4
             go_wp2
             go_roundg k3
             case measure => have := HJ2.out; have := HK2.out; have := HK3.out; omega
             case rel => exact ⟨(Af), (true), (wrap64 (Ab + 1)), Z15, Z15, H', ⟨Z59⟩, ⟨Z73⟩, ⟨Z0⟩⟩
            ·rw [if_neg Bl] at H
             have c31b0 : ((Go.bits .and .i64 Ac a1) == a1) = false := beq_eq_false_iff_ne.mpr Bl; have c31b1 : ((Go.bits .and .i64 Ac a1) != a1) = true := bne_iff_ne.mpr Bl; have H' := Aside0.mk H; clear H; obtain ⟨Dz, D0, C5⟩ := Kd.R_slice Ai.out; subst C5; obtain ⟨D1, D2, C6⟩ := Kd.R_slice Ag.out; subst C6
             go_wp2
             go_roundg k3
             case measure => have := HJ2.out; have := HK2.out; have := HK3.out; omega
             case rel => exact ⟨(Ae), (true), (wrap64 (Ab + 1)), Z15, Z15, H', ⟨Z59⟩, ⟨Z42⟩, ⟨Z0⟩⟩
           ·rw [if_neg Bh] at H
            have c30b0 : decide ((Af.length : Int) < (Ae.length : Int)) = false := decide_eq_false Bh; have c30b1 : decide (Af.length < Ae.length) = false := decide_eq_false (fun h => Bh (Int.ofNat_lt.mpr h)); clear Bh
            by_cases Bc : (Af.length : Int) = (Ae.length : Int)
            ·rw [if_pos Bc] at H
             have c36b0 : ((Af.length : Int) == (Ae.length : Int)) = true := beq_iff_eq.mpr Bc; have c36b1 : ((Af.length : Int) != (Ae.length : Int)) = false := bne_eq_false_iff_eq.mpr Bc
             have c36b2 : (Af.length == Ae.length) = true := by first | simpa using Bc | (simp at Bc ⊢; omega)
             clear Bc; replace H := Option.bind_eq_some_iff.mp H; obtain ⟨Aq, B1, H⟩ := H; replace H : (if (Go.bits .and .i64 Ac a1) = a1 then (if Aq < 0 then (impl_FewestFor.l0 k3 l0 a1 Af true ji10 (wrap64 (Ab + 1))) else (impl_FewestFor.l0 k3 l0 a1 Ae true ji10 (wrap64 (Ab + 1)))) else (impl_FewestFor.l0 k3 l0 a1 Ae true ji10 (wrap64 (Ab + 1)))) = some (r1, r2) := H; have C7 := Aside0.mk B1; clear B1
             by_cases Bm : (Go.bits .and .i64 Ac a1) = a1
             ·rw [if_pos Bm] at H
              have c38b0 : ((Go.bits .and .i64 Ac a1) == a1) = true := beq_iff_eq.mpr Bm; have c38b1 : ((Go.bits .and .i64 Ac a1) != a1) = false := bne_eq_false_iff_eq.mpr Bm; clear Bm
              by_cases Bq : Aq < 0
              ·rw [if_pos Bq] at H
               have c39b0 : decide (Aq < 0) = true := decide_eq_true Bq; clear Bq; have H' := Aside0.mk H; clear H; obtain ⟨D3, D4, C8⟩ := Kd.R_slice Ai.out; subst C8; obtain ⟨D5, D6, C9⟩ := Kd.R_slice Ag.out; subst C9
               go_wp2_with (first | (go_at_call 88; (with_reducible refine (slices_Compare_int_int.calls k3 _ _ Af _ _ Ae Aq _ ?side1 ?side2 ?side3 ?side4 C7.out).mono ?_); (case side1 => exact Z63); (case side2 => exact (Kd.R_reads' Ai.out).2.1); (case side3 => exact Z25); (case side4 => exact (Kd.R_reads' Ag.out).2.1); rintro e w' ⟨rfl, ⟨nd, rfl⟩⟩))
               go_roundg k3
               case measure => have := HJ2.out; have := HK2.out; have := HK3.out; omega
               case rel => exact ⟨(Af), (true), (wrap64 (Ab + 1)), Z15, Z15, H', ⟨Z59⟩, ⟨Z73⟩, ⟨Z0⟩⟩
              ·rw [if_neg Bq] at H
               have c39b0 : decide (Aq < 0) = false := decide_eq_false Bq; clear Bq; have H' := Aside0.mk H; clear H; obtain ⟨D7, D8, Da⟩ := Kd.R_slice Ai.out; subst Da; obtain ⟨D9, Ea, Db⟩ := Kd.R_slice Ag.out; subst Db
               go_wp2_with (first | (go_at_call 88; (with_reducible refine (slices_Compare_int_int.calls k3 _ _ Af _ _ Ae Aq _ ?side1 ?side2 ?side3 ?side4 C7.out).mono ?_); (case side1 => exact Z63); (case side2 => exact (Kd.R_reads' Ai.out).2.1); (case side3 => exact Z25); (case side4 => exact (Kd.R_reads' Ag.out).2.1); rintro e w' ⟨rfl, ⟨nd, rfl⟩⟩))
               go_roundg k3
               case measure => have := HJ2.out; have := HK2.out; have := HK3.out; omega
               case rel => exact ⟨(Ae), (true), (wrap64 (Ab + 1)), Z15, Z15, H', ⟨Z59⟩, ⟨Z42⟩, ⟨Z0⟩⟩
             ·rw [if_neg Bm] at H
              have c38b0 : ((Go.bits .and .i64 Ac a1) == a1) = false := beq_eq_false_iff_ne.mpr Bm; have c38b1 : ((Go.bits .and .i64 Ac a1) != a1) = true := bne_iff_ne.mpr Bm; have H' := Aside0.mk H; clear H; obtain ⟨Eb, Ec, Dc⟩ := Kd.R_slice Ai.out; subst Dc; obtain ⟨Ed, Ee, Dd⟩ := Kd.R_slice Ag.out; subst Dd
              go_wp2_with (first | (go_at_call 88; (with_reducible refine (slices_Compare_int_int.calls k3 _ _ Af _ _ Ae Aq _ ?side1 ?side2 ?side3 ?side4 C7.out).mono ?_); (case side1 => exact Z63); (case side2 => exact (Kd.R_reads' Ai.out).2.1); (case side3 => exact Z25); (case side4 => exact (Kd.R_reads' Ag.out).2.1); rintro e w' ⟨rfl, ⟨nd, rfl⟩⟩))
              go_roundg k3
              case measure => have := HJ2.out; have := HK2.out; have := HK3.out; omega
              case rel => exact ⟨(Ae), (true), (wrap64 (Ab + 1)), Z15, Z15, H', ⟨Z59⟩, ⟨Z42⟩, ⟨Z0⟩⟩
            ·rw [if_neg Bc] at H
             have c36b0 : ((Af.length : Int) == (Ae.length : Int)) = false := beq_eq_false_iff_ne.mpr Bc; have c36b1 : ((Af.length : Int) != (Ae.length : Int)) = true := bne_iff_ne.mpr Bc
             have c36b2 : (Af.length == Ae.length) = false := by first | simpa using Bc | (simp at Bc ⊢; omega)
             by_cases Bn : (Go.bits .and .i64 Ac a1) = a1
             ·rw [if_pos Bn] at H
              have c46b0 : ((Go.bits .and .i64 Ac a1) == a1) = true := beq_iff_eq.mpr Bn; have c46b1 : ((Go.bits .and .i64 Ac a1) != a1) = false := bne_eq_false_iff_eq.mpr Bn; clear Bn; have H' := Aside0.mk H; clear H; obtain ⟨Ef, Eg, De⟩ := Kd.R_slice Ai.out; subst De; obtain ⟨Eh, Ei, Df⟩ := Kd.R_slice Ag.out; subst Df
              go_wp2
              go_roundg k3
              case measure => have := HJ2.out; have := HK2.out; have := HK3.out; omega
              case rel => exact ⟨(Ae), (true), (wrap64 (Ab + 1)), Z15, Z15, H', ⟨Z59⟩, ⟨Z42⟩, ⟨Z0⟩⟩
             ·rw [if_neg Bn] at H
              have c46b0 : ((Go.bits .and .i64 Ac a1) == a1) = false := beq_eq_false_iff_ne.mpr Bn; have c46b1 : ((Go.bits .and .i64 Ac a1) != a1) = true := bne_iff_ne.mpr Bn; have H' := Aside0.mk H; clear H; obtain ⟨Ej, Ek, Dg⟩ := Kd.R_slice Ai.out; subst Dg; obtain ⟨El, Em, Dh⟩ := Kd.R_slice Ag.out; subst Dh
              go_wp2
              go_roundg k3
              case measure => have := HJ2.out; have := HK2.out; have := HK3.out; omega
              case rel => exact ⟨(Ae), (true), (wrap64 (Ab + 1)), Z15, Z15, H', ⟨Z59⟩, ⟨Z42⟩, ⟨Z0⟩⟩
          ·replace C1 := Bool.eq_false_iff.mpr C1
           subst C1
           have H1 : (if (Go.bits .and .i64 Ac a1) = a1 then (impl_FewestFor.l0 k3 l0 a1 Af true ji10 (wrap64 (Ab + 1))) else (impl_FewestFor.l0 k3 l0 a1 Ae false ji10 (wrap64 (Ab + 1)))) = some (r1, r2) := by rw [if_neg (show ¬ (false = true) by decide)] at H; exact H
           clear H; have H := H1; clear H1
           by_cases Bo : (Go.bits .and .i64 Ac a1) = a1
           ·rw [if_pos Bo] at H
            have c51b0 : ((Go.bits .and .i64 Ac a1) == a1) = true := beq_iff_eq.mpr Bo; have c51b1 : ((Go.bits .and .i64 Ac a1) != a1) = false := bne_eq_false_iff_eq.mpr Bo; clear Bo; have H' := Aside0.mk H; clear H
            go_wp2
            go_roundg k3
            case measure => have := HJ2.out; have := HK2.out; have := HK3.out; omega
            case rel => exact ⟨(Af), (true), (wrap64 (Ab + 1)), Z15, Z15, H', ⟨Z59⟩, ⟨Z73⟩, ⟨Z0⟩⟩
           ·rw [if_neg Bo] at H
            have c51b0 : ((Go.bits .and .i64 Ac a1) == a1) = false := beq_eq_false_iff_ne.mpr Bo; have c51b1 : ((Go.bits .and .i64 Ac a1) != a1) = true := bne_iff_ne.mpr Bo; have H' := Aside0.mk H; clear H
            go_wp2
            go_roundg k3
            case measure => have := HJ2.out; have := HK2.out; have := HK3.out; omega
            case rel => exact ⟨(Ae), (false), (wrap64 (Ab + 1)), Z15, Z15, H', ⟨Z59⟩, ⟨Z42⟩, ⟨Z0⟩⟩
      ·rw [if_neg Bj] at H
       have c13b0 : decide (Ab < ji10) = false := decide_eq_false Bj; clear Bj
       simp only [Option.some.injEq, Prod.mk.injEq] at H
       obtain ⟨rfl, rfl⟩ := H
       go_wp2
       go_ret2
       exact ⟨_, by first | rfl | (simp [errW_none, errW_some] <;> rfl) | (simp only [← hji10]; first | rfl | (simp [errW_none, errW_some] <;> rfl)) | (simp [*, errW_none, errW_some] <;> rfl), Z12, Z0⟩
end Go.Proofs.YthalifhbjioaeaaDoor.H
