-- by wip/pack.py of this repo
import Derived.Test.YtaadbpibmlnncaaZ05Hx0
import Derived.Test.YtaadbpibmlnncaaZ05Hx4
import Derived.Test.YtaadbpibmlnncaaZ05Hx5
import Derived.Test.YtaadbpibmlnncaaZ05WGuard
import Derived.Test.YtaadbpibmlnncaaZ05WLast
import Derived.Test.YtaadbpibmlnncaaZ05WMore
import Derived.Test.YtaadbpibmlnncaaZ05WWords
import Derived.Test.YtaadbpibmlnncaaZ05Short
namespace Go.Proofs.Ytaadbpibmlnncaa.H
open Go.RowKit Go.Proofs.YtaadbpibmlnncaaW.PrintWords Go.Proofs.YtaadbpibmlnncaaW.PrintLast Go.Proofs.YtaadbpibmlnncaaW.PrintMore
attribute [local go_sem] max2_int min2_int max_two min_two max_three min_three max_four min_four
set_option maxHeartbeats 8000000
set_option maxRecDepth 100000
set_option linter.unusedVariables false
set_option linter.unusedSimpArgs false
def impl_Chart_sizes.l0 : Nat → List Int → List Int → List Int → Int → Int → Int → Int → List Int → Option (List Int × List Int)
 | 0, _, _, _, _, _, _, _, _ => none
 | k + 1, x4, x6, x7, x20, x21, x306000, x306001, x306002 => if x21 < x20 then (if 0 ≤ x21 then (if x21 < (x4.length : Int) then (if 0 ≤ (rd x4 x21) then (if (rd x4 x21) < (x6.length : Int) then (if x21 < (x306002.length : Int) then (if (rd x4 x21) < (x7.length : Int) then (impl_Chart_sizes.l0 k x4 (x6.set ((rd x4 x21) : Int).toNat (wrap64 ((rd x6 (rd x4 x21)) + 1))) (x7.set ((rd x4 x21) : Int).toNat (rd x306002 x21)) x20 (wrap64 (x21 + 1)) x306000 x306001 x306002) else (none)) else (none)) else (none)) else (none)) else (none)) else (none)) else (some (x6, x7))
def impl_Chart_sizes.f (k : Nat) (a0_0 : Int) (a0_1 : Int) (l0_2 : List Int) : Option (List Int × List Int) := (impl_Chart_areas.f k a0_0 a0_1 l0_2).bind fun bt306 => (if 0 ≤ bt306.2 then (if (bt306.2 : Int).toNat ≤ 35184372088832 then (impl_Chart_sizes.l0 k bt306.1 (List.replicate (bt306.2 : Int).toNat 0) (List.replicate (bt306.2 : Int).toNat 0) (bt306.1.length : Int) 0 a0_0 a0_1 l0_2) else (none)) else (none))
theorem impl_Chart_sizes.calls (k : Nat) (Ah : Int) (Ai : Int) (Az : Option Addr) (Aw : Nat) (Ae : List Int) (r1 : List Int) (r2 : List Int) (w : World) (Bs : Kd.C (Kd.int .i64) w Az Ae.length Ae) (Bt : Ae.length ≤ Aw) (h : impl_Chart_sizes.f k Ah Ai Ae = some (r1, r2)) :
  Calls Try.prog 48 #[.agg #[.int .i64 Ah, .int .i64 Ai, .slice Az Ae.length Aw]] w fun e w' => ∃ v0_ v1_ : Value, e = .returned (.tuple #[v0_, v1_]) ∧ Kd.R (Kd.int .i64) 3 w' w.heap.size (fun k_ => nV k_ v1_) v0_ r1 ∧ Kd.R (Kd.int .i64) 3 w' w.heap.size (fun k_ => nV k_ v0_) v1_ r2 ∧ Below w.heap.size w w' := by
 have hu28 := Try.underlying28; have Bu := Aside0.mk Bs; have Ch := Aside0.mk Bt; clear Bs Bt; have HB := aM (Below.refl w.heap.size w); have H : ((impl_Chart_areas.f k Ah Ai Ae).bind fun Av => (if 0 ≤ Av.2 then (if (Av.2 : Int).toNat ≤ 35184372088832 then (impl_Chart_sizes.l0 k Av.1 (List.replicate (Av.2 : Int).toNat 0) (List.replicate (Av.2 : Int).toNat 0) (Av.1.length : Int) 0 Ah Ai Ae) else (none)) else (none))) = some (r1, r2) := h; clear h; replace H := Option.bind_eq_some_iff.mp H; obtain ⟨⟨Ab, Ag⟩, Dh, H⟩ := H; replace H : (if 0 ≤ Ag then (if (Ag : Int).toNat ≤ 35184372088832 then (impl_Chart_sizes.l0 k Ab (List.replicate (Ag : Int).toNat 0) (List.replicate (Ag : Int).toNat 0) (Ab.length : Int) 0 Ah Ai Ae) else (none)) else (none)) = some (r1, r2) := H; have A2 := Aside0.mk Dh; clear Dh
 by_cases c3 : 0 ≤ Ag
 ·rw [if_pos c3] at H
  have c3b0 := eq_true c3; have c3b1 : decide (0 ≤ Ag) = true := decide_eq_true c3; clear c3
  by_cases c4 : (Ag : Int).toNat ≤ 35184372088832
  ·rw [if_pos c4] at H
   have c4b0 := eq_true c4; have c4b1 : decide ((Ag : Int).toNat ≤ 35184372088832) = true := decide_eq_true c4; clear c4; obtain ⟨Bn, Ba⟩ : ∃ y_ : List Int, y_ = (List.replicate (Ag : Int).toNat 0) := ⟨_, rfl⟩
   replace H : (impl_Chart_sizes.l0 k Ab Bn (List.replicate (Ag : Int).toNat 0) (Ab.length : Int) 0 Ah Ai Ae) = some (r1, r2) := by first | (rw [Ba]; with_reducible exact H) | (have H2_ := (Option.bind_some _ _).symm.trans H; rw [Ba]; with_reducible exact H2_) | (have H2_ := (Option.bind_some _ _).symm.trans H; with_reducible exact H2_) | with_reducible exact H | (rw [Ba]; exact H) | exact H
   have Bj := Aside0.mk Ba; clear Ba; obtain ⟨Bp, Bb⟩ : ∃ y_ : List Int, y_ = (List.replicate (Ag : Int).toNat 0) := ⟨_, rfl⟩
   replace H : (impl_Chart_sizes.l0 k Ab Bn Bp (Ab.length : Int) 0 Ah Ai Ae) = some (r1, r2) := by first | (rw [Bb]; with_reducible exact H) | (have H2_ := (Option.bind_some _ _).symm.trans H; rw [Bb]; with_reducible exact H2_) | (have H2_ := (Option.bind_some _ _).symm.trans H; with_reducible exact H2_) | with_reducible exact H | (rw [Bb]; exact H) | exact H
   have Bk := Aside0.mk Bb; clear Bb; have H' := Aside0.mk H; clear H
   go_enter Try.func48, Try.ntmps48
   try go_wp2_with (first | ((with_reducible refine gate_dst (N := 1) rfl ?_); refine bxE 1 #[.int .i64 Ah, .int .i64 Ai, .slice Az Ae.length Aw] 28 ?_; intro Bc hg w5 hbox hb; have Ac := aM (hbox); have Di := gwS hg Z0; have Af := gwS hg Z0; replace HB := hbS Z0 hb; clear hb hbox hg; obtain ⟨Bv, Bw, Bx⟩ := bz3 Ac; obtain ⟨Bz, B0, B2⟩ := fz3 Ac) | ((with_reducible refine gate_callee (f := 46) rfl ?_); refine glE (some 12) Try.func46 #[.agg #[.int .i64 Ah, .int .i64 Ai, .slice Az Ae.length Aw]] ?_; (with_reducible refine (impl_Chart_areas.calls k Ah Ai _ _ Ae Ab Ag _ ?side1 ?side2 A2.out).mono ?_); (case side1 => exact Z66); (case side2 => exact Ch.out); rintro e w7 ⟨Bl, rfl, Dj, hb⟩; refine ⟨_, rfl, ?_⟩; have Ad := aM (Kd.R_lower Dj (below_size Z2)); replace Ac := bkB Ac hb; replace HB := hbS Z2 hb; (try clear hb); (try clear Dj)))
   replace Ad := aM (Kd.R_drew Ad.out); replace Ac := aM (blk_drew Ac.out); replace HB := aM (below_drew1 HB.out); refine start_ (n := 6) (S := fun w' => True) (ds := []) #[false, false, false, false, false, false] Z35 rfl rfl trivial (fun hHeld => ?_)
   generalize w7.drew = w8 at Ad Ac HB hHeld ⊢
   refine puK 0 15 #[true, false, false, false, false, false] rfl rfl ?_; refine puK 2 17 #[true, false, true, false, false, false] rfl rfl ?_; refine join_ (σ := Value × Value) 1 #[true, true, true, true, true, false] (fun s_ => [(16, s_.1), (18, s_.2), (6, s_.1)]) (fun s_ w' => (Kd.R (Kd.int .i64) 3 w' w.heap.size (fun k_ => some k_ ≠ (s_.1 : Value).ownBlock ∧ some k_ ≠ (s_.2 : Value).ownBlock) Bl Ab) ∧ (Kd.R (Kd.int .i64) 3 w' w.heap.size (fun k_ => nV k_ Bl ∧ some k_ ≠ (s_.2 : Value).ownBlock) s_.1 Bn) ∧ (Kd.R (Kd.int .i64) 3 w' w.heap.size (fun k_ => nV k_ Bl ∧ some k_ ≠ (s_.1 : Value).ownBlock) s_.2 Bp) ∧ (w'.heap[Bc]? = some (.cells #[.int .i64 Ah, .int .i64 Ai, .slice Az Ae.length Aw] 28 (0, 0))) ∧ (Below w.heap.size w w')) ?_ ?_
   rotate_left
   ·intro hCont
    refine two_ (i := 1) (j := 3) (Ni := some 16) (Nj := some 18) #[true, true, true, false, false, false] #[true, false, true, true, false, false] rfl rfl rfl rfl Z35 (by decide) (by decide) (fun K hK => ?_) (fun K hK => ?_)
    ·skip
     refine Kd.R_make_step (Kd.int .i64) _ 3 (by rfl) (N := 16) rfl 22 _ _ rfl Ag rfl rfl Try.underlying22 (.int .i64 0) 8 info3 rfl (by decide) (by omega) 0 (ok := fun _ => True) (okp := fun _ => True) rfl (fun _ hk => hk) trivial (of_decide_eq_true Z3) (Nat.le_trans (Nat.mul_le_mul_right _ (of_decide_eq_true Z3 : Ag.toNat ≤ 35184372088832)) (by omega)) (Below.refl _ _) (Nat.le_refl _) ?_; intro Ar w9 Am hb hg_ hnew_; clear hg_ hnew_
     (first | rw [← Bj.out] at Am | (simp only [Int.reduceToNat] at Am; rw [← Bj.out] at Am))
     have An := aM (Kd.R_lower (Kd.R_new' Am (Kd.R_lt Z14)) (below_size Z2)); replace Ad := aM (Kd.R_elder' Z14 (Kd.R_base Am) hb); replace Ac := bkB Ac hb; replace HB := hbS Z2 hb; clear hb Am; refine hK.out _ _ trivial (fun hHeld => ?_); clear hK K; refine noR 16 ?_; refine puK 4 6 #[true, true, true, false, true, false] rfl rfl ?_; refine one_ (i := 3) (N := some 18) #[true, true, true, true, true, false] rfl rfl Z35 (by decide) (fun K hK => ?_); refine Kd.R_make_step (Kd.int .i64) _ 3 (by rfl) (N := 18) rfl 22 _ _ rfl Ag rfl rfl Try.underlying22 (.int .i64 0) 8 info3 rfl (by decide) (by omega) 0 (ok := fun _ => True) (okp := fun _ => True) rfl (fun _ hk => hk) trivial (of_decide_eq_true Z3) (Nat.le_trans (Nat.mul_le_mul_right _ (of_decide_eq_true Z3 : Ag.toNat ≤ 35184372088832)) (by omega)) (Below.refl _ _) (Nat.le_refl _) ?_; intro Ap Dk Ak hb hg_ hnew_; clear hg_ hnew_
     (first | rw [← Bk.out] at Ak | (simp only [Int.reduceToNat] at Ak; rw [← Bk.out] at Ak))
     have Ao := aM (Kd.R_lower (Kd.R_new' (Kd.R_new' Ak (Kd.R_lt Z14)) (Kd.R_lt Z41)) (below_size Z2)); replace Ad := aM (Kd.R_elder' Z14 (Kd.R_base Ak) hb); replace An := aM (Kd.R_elder' Z41 (Kd.R_base Ak) hb); replace Ac := bkB Ac hb; replace HB := hbS Z2 hb; clear hb Ak; refine hK.out _ _ trivial (fun hHeld => ?_); clear hK K; refine noR 18 ?_
     exact norm_ Z61 (hCont (Ar, Ap) _ ⟨Z86, Z48, Z49, Z21, Z2⟩)
    ·skip
     refine Kd.R_make_step (Kd.int .i64) _ 3 (by rfl) (N := 18) rfl 22 _ _ rfl Ag rfl rfl Try.underlying22 (.int .i64 0) 8 info3 rfl (by decide) (by omega) 0 (ok := fun _ => True) (okp := fun _ => True) rfl (fun _ hk => hk) trivial (of_decide_eq_true Z3) (Nat.le_trans (Nat.mul_le_mul_right _ (of_decide_eq_true Z3 : Ag.toNat ≤ 35184372088832)) (by omega)) (Below.refl _ _) (Nat.le_refl _) ?_; intro Ap w9 Am hb hg_ hnew_; clear hg_ hnew_
     (first | rw [← Bk.out] at Am | (simp only [Int.reduceToNat] at Am; rw [← Bk.out] at Am))
     have Ao := aM (Kd.R_lower (Kd.R_new' Am (Kd.R_lt Z14)) (below_size Z2)); replace Ad := aM (Kd.R_elder' Z14 (Kd.R_base Am) hb); replace Ac := bkB Ac hb; replace HB := hbS Z2 hb; clear hb Am; refine hK.out _ _ trivial (fun hHeld => ?_); clear hK K; refine noR 18 ?_; refine one_ (i := 1) (N := some 16) #[true, true, true, true, false, false] rfl rfl Z35 (by decide) (fun K hK => ?_); refine Kd.R_make_step (Kd.int .i64) _ 3 (by rfl) (N := 16) rfl 22 _ _ rfl Ag rfl rfl Try.underlying22 (.int .i64 0) 8 info3 rfl (by decide) (by omega) 0 (ok := fun _ => True) (okp := fun _ => True) rfl (fun _ hk => hk) trivial (of_decide_eq_true Z3) (Nat.le_trans (Nat.mul_le_mul_right _ (of_decide_eq_true Z3 : Ag.toNat ≤ 35184372088832)) (by omega)) (Below.refl _ _) (Nat.le_refl _) ?_; intro Ar Dk Ak hb hg_ hnew_; clear hg_ hnew_
     (first | rw [← Bj.out] at Ak | (simp only [Int.reduceToNat] at Ak; rw [← Bj.out] at Ak))
     have An := aM (Kd.R_lower (Kd.R_new' (Kd.R_new' Ak (Kd.R_lt Z14)) (Kd.R_lt Z29)) (below_size Z2)); replace Ad := aM (Kd.R_elder' Z14 (Kd.R_base Ak) hb); replace Ao := aM (Kd.R_elder' Z29 (Kd.R_base Ak) hb); replace Ac := bkB Ac hb; replace HB := hbS Z2 hb; clear hb Ak; refine hK.out _ _ trivial (fun hHeld => ?_); clear hK K; refine noR 16 ?_; refine puK 4 6 #[true, true, true, true, true, false] rfl rfl ?_
     exact norm_ Z61 (hCont (Ar, Ap) _ ⟨Z87, Z48, Z49, Z21, Z2⟩)
   rintro ⟨Ar, Ap⟩ Ci ⟨h0_, h1_, h2_, h3_, h4_⟩; have n0_ : Aside0 (Kd.R (Kd.int .i64) 3 Ci w.heap.size (fun k_ => nV k_ Ar ∧ nV k_ Ap) Bl Ab) := ⟨h0_⟩; have n1_ : Aside0 (Kd.R (Kd.int .i64) 3 Ci w.heap.size (fun k_ => nV k_ Bl ∧ nV k_ Ap) Ar Bn) := ⟨h1_⟩; have n2_ : Aside0 (Kd.R (Kd.int .i64) 3 Ci w.heap.size (fun k_ => nV k_ Bl ∧ nV k_ Ar) Ap Bp) := ⟨h2_⟩; have n3_ : Aside0 (Ci.heap[Bc]? = some (.cells #[.int .i64 Ah, .int .i64 Ai, .slice Az Ae.length Aw] 28 (0, 0))) := ⟨h3_⟩; have n4_ : Aside0 (Below w.heap.size w Ci) := ⟨h4_⟩; clear Ad; clear Ac; clear HB; clear h0_ h1_ h2_ h3_ h4_; have Ad := n0_; have An := n1_; have Ao := n2_; have Ac := n3_; have HB := n4_; clear n0_ n1_ n2_ n3_ n4_; have hHeld := trivial; refine norm_ (a' := ?_) ?_ ?_
   rotate_left
   ·simp only [putAll, Act.put, List.setIfInBounds_toArray, List.set_cons_zero, List.set_cons_succ]
    rfl
   refine puK 5 7 #[true, true, true, true, true, true] rfl rfl ?_; refine done_ Z35 ?_; obtain ⟨B4, Bg, C4⟩ := Kd.R_slice Ad.out; subst C4
   try go_wp2
   go_loopg [21] k (fun kq Dl w' => ∃ (Aj : List Int) (Al : List Int) (Aa : Int), Dl = .int .i64 Aa ∧ Aside0 (impl_Chart_sizes.l0 kq Ab Aj Al (Ab.length : Int) Aa Ah Ai Ae = some (r1, r2)) ∧ Aside0 (kq ≤ k) ∧ Aside0 (Kd.R (Kd.int .i64) 3 w' w.heap.size (fun k_ => nV k_ Ar ∧ nV k_ Ap) (.slice B4 Ab.length Bg) Ab) ∧ Aside0 (Kd.R (Kd.int .i64) 3 w' w.heap.size (fun k_ => nS k_ B4 Ab.length Bg ∧ nV k_ Ap) Ar Aj) ∧ Aside0 (Kd.R (Kd.int .i64) 3 w' w.heap.size (fun k_ => nS k_ B4 Ab.length Bg ∧ nV k_ Ar) Ap Al) ∧ Aside0 (w'.heap[Bc]? = some (.cells #[.int .i64 Ah, .int .i64 Ai, (.slice Az Ae.length Aw)] 28 (0, 0))) ∧ Aside0 (Below w.heap.size w w'))
   case atStart => exact ⟨(Bn), (Bp), (0), Z5, H', ⟨Nat.le_refl _⟩, ⟨Z14⟩, ⟨Z41⟩, ⟨Z29⟩, ⟨Z21⟩, ⟨Z2⟩⟩
   case round =>
    clear H'; (try clear p2); (try clear c3); (try clear c3b0); (try clear c3b1); (try clear c4); (try clear c4b0); (try clear c4b1); (try clear Bv); (try clear Bw); (try clear Bx); (try clear Bz); (try clear B0); (try clear B2); obtain ⟨Aj, Al, Aa, rfl, HA, HK1, Bm, Aq, Au, Ac, HB⟩ := hrel; cases gk with
    | zero => exact absurd HA.out (by simp [impl_Chart_sizes.l0])
    | succ k1 =>
     have H := HA.out; clear HA
     simp only [impl_Chart_sizes.l0] at H
     by_cases Cg : Aa < (Ab.length : Int)
     ·rw [if_pos Cg] at H
      have c15b0 : decide (Aa < (Ab.length : Int)) = true := decide_eq_true Cg; clear Cg
      by_cases Cq : 0 ≤ Aa
      ·rw [if_pos Cq] at H
       have c16b0 : decide (0 ≤ Aa) = true := decide_eq_true Cq; clear Cq
       by_cases Cr : Aa < (Ab.length : Int)
       ·rw [if_pos Cr] at H
        have c17b0 : decide (Aa < (Ab.length : Int)) = true := decide_eq_true Cr; clear Cr
        by_cases Cs : 0 ≤ (rd Ab Aa)
        ·rw [if_pos Cs] at H
         have c18b0 : decide (0 ≤ (rd Ab Aa)) = true := decide_eq_true Cs; clear Cs
         by_cases Ct : (rd Ab Aa) < (Aj.length : Int)
         ·rw [if_pos Ct] at H
          have c19b0 : decide ((rd Ab Aa) < (Aj.length : Int)) = true := decide_eq_true Ct; clear Ct; obtain ⟨Bq, Bd⟩ : ∃ y_ : List Int, y_ = (Aj.set ((rd Ab Aa) : Int).toNat (wrap64 ((rd Aj (rd Ab Aa)) + 1))) := ⟨_, rfl⟩
          replace H : (if Aa < (Ae.length : Int) then (if (rd Ab Aa) < (Al.length : Int) then (impl_Chart_sizes.l0 k1 Ab Bq (Al.set ((rd Ab Aa) : Int).toNat (rd Ae Aa)) (Ab.length : Int) (wrap64 (Aa + 1)) Ah Ai Ae) else (none)) else (none)) = some (r1, r2) := by first | (rw [Bd]; with_reducible exact H) | (have H2_ := (Option.bind_some _ _).symm.trans H; rw [Bd]; with_reducible exact H2_) | (have H2_ := (Option.bind_some _ _).symm.trans H; with_reducible exact H2_) | with_reducible exact H | (rw [Bd]; exact H) | exact H
          have Cj := Aside0.mk Bd; clear Bd
          by_cases Cu : Aa < (Ae.length : Int)
          ·rw [if_pos Cu] at H
           have c21b0 : decide (Aa < (Ae.length : Int)) = true := decide_eq_true Cu; clear Cu
           by_cases Cv : (rd Ab Aa) < (Al.length : Int)
           ·rw [if_pos Cv] at H
            have c22b0 : decide ((rd Ab Aa) < (Al.length : Int)) = true := decide_eq_true Cv; clear Cv; obtain ⟨B5, Bf⟩ : ∃ y_ : List Int, y_ = (Al.set ((rd Ab Aa) : Int).toNat (rd Ae Aa)) := ⟨_, rfl⟩
            replace H : (impl_Chart_sizes.l0 k1 Ab Bq B5 (Ab.length : Int) (wrap64 (Aa + 1)) Ah Ai Ae) = some (r1, r2) := by first | (rw [Bf]; with_reducible exact H) | (have H2_ := (Option.bind_some _ _).symm.trans H; rw [Bf]; with_reducible exact H2_) | (have H2_ := (Option.bind_some _ _).symm.trans H; with_reducible exact H2_) | with_reducible exact H | (rw [Bf]; exact H) | exact H
            have Ck := Aside0.mk Bf; clear Bf; have H' := Aside0.mk H; clear H; have B6 : 0 ≤ (Aa : Int) := of_decide_eq_true Z3; have B7 : Aa < (Ab.length : Int) := of_decide_eq_true Z3; obtain ⟨ad316, e316, Cw⟩ := Kd.at_int (Kd.R_reads' Bm.out).2.2 Aa B6 B7; cases e316; replace B6 := eq_true B6; replace B7 := eq_true B7; obtain ⟨Dm, Bh, C5⟩ := Kd.R_slice Aq.out; subst C5; have Ca : 0 ≤ ((rd Ab Aa) : Int) := of_decide_eq_true Z3; have Cb : (rd Ab Aa) < (Aj.length : Int) := of_decide_eq_true Z3; obtain ⟨ad317, e317, Br⟩ := Kd.at_int (Kd.R_reads' Aq.out).2.2 (rd Ab Aa) Ca Cb; cases e317; replace Ca := eq_true Ca; replace Cb := eq_true Cb; have C6 : 0 ≤ ((rd Ab Aa) : Int) := of_decide_eq_true Z3; have C7 : ((rd Ab Aa) : Int) < ((Aj.length : Int) : Int) := of_decide_eq_true Z3; obtain ⟨Ax, Dn, Cl, Cm, gl20, cl20, HG20⟩ := Kd.R_form Aq.out (by omega)
            (first | cases Cl | (injection Cl with ea_ en_ ec_; (first | subst ea_ | (injection ea_ with ea_; subst ea_)); subst ec_; clear en_))
            have C8 := Aside0.mk Cm; have Dp := Aside0.mk HG20; clear Cm gl20 HG20
            (first | simp only [add_plain] at Br | skip)
            obtain ⟨C9, Da⟩ := Kd.R_celln 0 Aq.out ((rd Ab Aa) : Int) C6 C7; replace C6 := eq_true C6; replace C7 := eq_true C7; have Cc := Kd.R_putg Aq.out ((rd Ab Aa) : Int) (wrap64 ((rd Aj (rd Ab Aa)) + 1))
            go_wp2_with (first | ((with_reducible refine gate_store (t := 3) (p := 31) rfl ?_); refine store_event (t := 3) (p := 31) (v := ?vo_w26) (w1 := (wr.setCell ⟨Ax, ((rd Ab Aa) : Int).toNat, none⟩ (.int .i64 (wrap64 ((rd Aj (rd Ab Aa)) + 1))))) ?hg ?ho ?hn ?hr ?_; (case ho => rfl); (case hg => rfl); (case hn => rfl); (case hr => first | (go_simp; done) | (go_simp; rfl)); intro Cn hw; have hg : wr.grownBy Cn (some Ax) := (by rw [hw]; exact Cc.2); have hp_ : Kd.R (Kd.int .i64) 3 Cn w.heap.size (fun k_ => some k_ ≠ (.slice (some ad316) Ab.length Bg : Value).ownBlock ∧ nV k_ Ap) (.slice (some ⟨Ax, 0, none⟩) Aj.length Bh) Bq := (by rw [hw, Cj.out]; exact Cc.1); clear Cc; replace Bm := aM (Kd.R_after (v := (.slice (some ⟨Ax, 0, none⟩) Aj.length Bh)) (v1 := (.slice (some ⟨Ax, 0, none⟩) Aj.length Bh)) (ok := (fun k_ => nV k_ Ap)) Z93 hg (.inl rfl)); replace Au := aM (Kd.R_after (v := (.slice (some ⟨Ax, 0, none⟩) Aj.length Bh)) (v1 := (.slice (some ⟨Ax, 0, none⟩) Aj.length Bh)) (ok := (fun k_ => some k_ ≠ (.slice (some ad316) Ab.length Bg : Value).ownBlock)) Z55 hg (.inl rfl)); replace Ac := aM (blk_grown (g := Bc) (o := .cells #[.int .i64 Ah, .int .i64 Ai, .slice Az Ae.length Aw] 28 (0, 0)) Z21 hg (Kd.R_ne Aq.out Ac.out (by decide))); replace Aq := aM (hp_); replace HB := aM ((by rw [hw]; exact below_set (HB.out) C8.out : Below w.heap.size w Cn)); clear hg hw hp_; obtain ⟨Cx, Cy, Cz⟩ := bz3 Ac; obtain ⟨C0, C1, C3⟩ := fz3 Ac; have Cd : 0 ≤ (Aa : Int) := of_decide_eq_true Z3; have Ce : Aa < (Ae.length : Int) := of_decide_eq_true Z3; obtain ⟨ad319, e319, Ay⟩ := Kd.at_int Bu.out Aa Cd Ce; cases e319; replace Ay := (HB.out.cell (World.block_lt_of_cell? w _ Ay)).trans Ay; replace Cd := eq_true Cd; replace Ce := eq_true Ce; have Db : 0 ≤ ((rd Ab Aa) : Int) := of_decide_eq_true Z3; have Dc : ((rd Ab Aa) : Int) < ((Al.length : Int) : Int) := of_decide_eq_true Z3; obtain ⟨Bi, Bo, Co, Cp, gl23, cl23, HG23⟩ := Kd.R_form Au.out (by omega); (first | cases Co | (injection Co with ea_ en_ ec_; (first | subst ea_ | (injection ea_ with ea_; subst ea_)); subst ec_; clear en_)); have Dd := Aside0.mk Cp; have Dq := Aside0.mk HG23; clear Cp gl23 HG23; obtain ⟨De, Df⟩ := Kd.R_celln 0 Au.out ((rd Ab Aa) : Int) Db Dc; replace Db := eq_true Db; replace Dc := eq_true Dc; obtain ⟨hy28_, hz28_⟩ := Kd.R_celln 0 Au.out ((rd Ab Aa) : Int) (of_decide_eq_true Z3) (of_decide_eq_true Z3); have Cf := Kd.R_putg Au.out ((rd Ab Aa) : Int) (rd Ae Aa)) | ((with_reducible refine gate_store (t := 3) (p := 39) rfl ?_); refine store_event (t := 3) (p := 39) (v := ?vo_w29) (w1 := (Cn.setCell ⟨Bi, ((rd Ab Aa) : Int).toNat, none⟩ (.int .i64 (rd Ae Aa)))) ?hg ?ho ?hn ?hr ?_; (case ho => rfl); (case hg => rfl); (case hn => rfl); (case hr => first | (go_simp; done) | (go_simp; rfl)); intro Dg hw; have hg : Cn.grownBy Dg (some Bi) := (by rw [hw]; exact Cf.2); have hp_ : Kd.R (Kd.int .i64) 3 Dg w.heap.size (fun k_ => some k_ ≠ (.slice (some ad316) Ab.length Bg : Value).ownBlock ∧ some k_ ≠ (.slice (some ⟨Ax, 0, none⟩) Aj.length Bh : Value).ownBlock) (.slice (some ⟨Bi, 0, none⟩) Al.length Bo) B5 := (by rw [hw, Ck.out]; exact Cf.1); clear Cf; replace Bm := aM (Kd.R_after (v := (.slice (some ⟨Bi, 0, none⟩) Al.length Bo)) (v1 := (.slice (some ⟨Bi, 0, none⟩) Al.length Bo)) (ok := (fun k_ => some k_ ≠ (.slice (some ⟨Ax, 0, none⟩) Aj.length Bh : Value).ownBlock)) Z93 hg (.inl rfl)); replace Aq := aM (Kd.R_after (v := (.slice (some ⟨Bi, 0, none⟩) Al.length Bo)) (v1 := (.slice (some ⟨Bi, 0, none⟩) Al.length Bo)) (ok := (fun k_ => some k_ ≠ (.slice (some ad316) Ab.length Bg : Value).ownBlock)) Z42 hg (.inl rfl)); replace Ac := aM (blk_grown (g := Bc) (o := .cells #[.int .i64 Ah, .int .i64 Ai, .slice (some ad319) Ae.length Aw] 28 (0, 0)) Z21 hg (Kd.R_ne Au.out Ac.out (by decide))); replace Au := aM (hp_); replace HB := aM ((by rw [hw]; exact below_set (HB.out) Dd.out : Below w.heap.size w Dg)); clear hg hw hp_))
            go_roundg k1
            case measure => have := HK1.out; omega
            case rel => exact ⟨(Bq), (B5), (wrap64 (Aa + 1)), Z5, H', ⟨Z62⟩, ⟨by (with_reducible repeat (first | apply Kd.R_alloc | apply Kd.R_drewN | apply Kd.R_drew)); exact Bm.out⟩, ⟨Z42⟩, ⟨Z55⟩, ⟨Z21⟩, ⟨Z2⟩⟩
           ·rw [if_neg Cv] at H
            exact absurd H (by simp)
          ·rw [if_neg Cu] at H
           exact absurd H (by simp)
         ·rw [if_neg Ct] at H
          exact absurd H (by simp)
        ·rw [if_neg Cs] at H
         exact absurd H (by simp)
       ·rw [if_neg Cr] at H
        exact absurd H (by simp)
      ·rw [if_neg Cq] at H
       exact absurd H (by simp)
     ·rw [if_neg Cg] at H
      have c15b0 : decide (Aa < (Ab.length : Int)) = false := decide_eq_false Cg; clear Cg
      simp only [Option.some.injEq, Prod.mk.injEq] at H
      obtain ⟨rfl, rfl⟩ := H
      go_wp2
      go_ret2
      exact ⟨_, _, Z4, Z51, Z101, Z2⟩
  ·rw [if_neg c4] at H
   exact absurd H (by simp)
 ·rw [if_neg c3] at H
  exact absurd H (by simp)
def impl_Chart_sizesOf.l0 : Nat → Int → List Int → List Int → List Int → Int → Int → Option (List Int)
 | 0, _, _, _, _, _, _ => none
 | k + 1, x1, x5, x6, x7, x17, x18 => if x18 < x17 then (if 0 ≤ x18 then (if x18 < (x6.length : Int) then (if x18 < (x7.length : Int) then (if (rd x7 x18) = x1 then (if x5.length < 17592186044416 then (impl_Chart_sizesOf.l0 k x1 (x5 ++ [rd x6 x18]) x6 x7 x17 (wrap64 (x18 + 1))) else (none)) else (impl_Chart_sizesOf.l0 k x1 x5 x6 x7 x17 (wrap64 (x18 + 1)))) else (none)) else (none)) else (none)) else (some x5)
def impl_Chart_sizesOf.f (k : Nat) (a0_0 : Int) (a0_1 : Int) (l0_2 : List Int) (a1 : Int) : Option (List Int) := (impl_Chart_sizes.f k a0_0 a0_1 l0_2).bind fun bt325 => (impl_Chart_sizesOf.l0 k a1 (([] : List Int)) bt325.1 bt325.2 (bt325.1.length : Int) 0)
theorem impl_Chart_sizesOf.calls (k : Nat) (Ah : Int) (Ai : Int) (Av : Option Addr) (Aw : Nat) (Af : List Int) (a1 : Int) (r : List Int) (w : World) (Ba : Kd.C (Kd.int .i64) w Av Af.length Af) (Bb : Af.length ≤ Aw) (h : impl_Chart_sizesOf.f k Ah Ai Af a1 = some r) :
  Calls Try.prog 54 #[.agg #[.int .i64 Ah, .int .i64 Ai, .slice Av Af.length Aw], .int .i64 a1] w fun e w' => ∃ v0_ : Value, e = .returned (v0_) ∧ Kd.R (Kd.int .i64) 3 w' w.heap.size (fun _ => True) v0_ r ∧ Below w.heap.size w w' := by
 have hu28 := Try.underlying28; have Bq := Aside0.mk Ba; have Br := Aside0.mk Bb; clear Ba Bb; have HB := aM (Below.refl w.heap.size w); have H : ((impl_Chart_sizes.f k Ah Ai Af).bind fun Ag => (impl_Chart_sizesOf.l0 k a1 (([] : List Int)) Ag.1 Ag.2 (Ag.1.length : Int) 0)) = some r := h; clear h; obtain ⟨Bg, Ak⟩ : ∃ y_ : List Int, y_ = (([] : List Int)) := ⟨_, rfl⟩
 replace H : ((impl_Chart_sizes.f k Ah Ai Af).bind fun Ag => (impl_Chart_sizesOf.l0 k a1 Bg Ag.1 Ag.2 (Ag.1.length : Int) 0)) = some r := by first | (rw [Ak]; with_reducible exact H) | (have H2_ := (Option.bind_some _ _).symm.trans H; rw [Ak]; with_reducible exact H2_) | (have H2_ := (Option.bind_some _ _).symm.trans H; with_reducible exact H2_) | with_reducible exact H | (rw [Ak]; exact H) | exact H
 have Bc := Aside0.mk Ak; clear Ak; replace H := Option.bind_eq_some_iff.mp H; obtain ⟨⟨Ab, Ae⟩, Cd, H⟩ := H; replace H : (impl_Chart_sizesOf.l0 k a1 Bg Ab Ae (Ab.length : Int) 0) = some r := H; have A3 := Aside0.mk Cd; clear Cd; have H' := Aside0.mk H; clear H
 go_enter Try.func54, Try.ntmps54
 go_wp2_with (first | ((with_reducible refine gate_dst (N := 2) rfl ?_); refine bxE 2 #[.int .i64 Ah, .int .i64 Ai, .slice Av Af.length Aw] 28 ?_; intro Bd hg w4 hbox hb; have Ac := aM (hbox); have Ce := gwS hg Z0; have Ad := gwS hg Z0; replace HB := hbS Z0 hb; clear hb hbox hg) | ((with_reducible refine gate_dst (N := 10) rfl ?_); refine Kd.R_lit (Kd.int .i64) _ 3 ?hg (N := 10) ?hd (xs := ([] : List Int)) (inner := []) (ok := fun _ => True) (okp := fun _ => True) ?hr ?hp (fun _ hk => hk) trivial (Below.refl _ _) (Nat.le_refl _) (by simp) ?_; (case hd => rfl); (case hg => rfl); (case hr => first | (go_simp; done) | (go_simp; rfl)); (case hp => exact (Reps.none _ _)); intro Cf w5 Bs hb hg_ hnew_; clear hg_ hnew_; (first | rw [← Bc.out] at Bs | (simp only [Int.reduceToNat] at Bs; rw [← Bc.out] at Bs)); have Al := aM (Kd.R_lower Bs (below_size Z11)); replace Ac := bkB Ac hb; replace HB := hbS Z11 hb; clear hb Bs; obtain ⟨Bh, Bi, Bj⟩ := bz3 Ac; obtain ⟨Bk, Bl, Bm⟩ := fz3 Ac) | ((with_reducible refine gate_callee (f := 48) rfl ?_); refine glE (some 13) Try.func48 #[.agg #[.int .i64 Ah, .int .i64 Ai, .slice Av Af.length Aw]] ?_; (with_reducible refine (impl_Chart_sizes.calls k Ah Ai _ _ Af Ab Ae _ ?side1 ?side2 A3.out).mono ?_); (case side1 => exact (by repeat (first | exact (Kd.C_below Bq.out HB.out) | (with_reducible refine Kd.C_alloc ?_ _) | (with_reducible refine Kd.C_drewN ?_ _) | (with_reducible refine Kd.C_drew ?_)))); (case side2 => exact Br.out); rintro e w8 ⟨Cg, Bn, rfl, B6, B7, hb⟩; refine ⟨_, rfl, ?_⟩; have Bf := aM (Kd.R_lower (Kd.R_new' B6 (Kd.R_lt Z27)) (below_size Z11)); have Bt := aM (Kd.R_lower (Kd.R_new' B7 (Kd.R_lt Z27)) (below_size Z11)); replace Al := aM (Kd.R_mono (Kd.R_told (Kd.R_told (Kd.R_old Z27 hb) (Kd.R_base B6)) (Kd.R_base B7)) (fun _ h_ => h_.1)); replace Ac := bkB Ac hb; replace HB := hbS Z11 hb; (try clear hb); (try clear B6); (try clear B7); obtain ⟨Ca, Bu, Ch⟩ := Kd.R_slice Bf.out; subst Ch))
 go_loopg [5, 18] k (fun kq v5 Ci w' => ∃ (An : List Int) (Aa : Int), Ci = .int .i64 Aa ∧ Aside0 (impl_Chart_sizesOf.l0 kq a1 An Ab Ae (Ab.length : Int) Aa = some r) ∧ Aside0 (kq ≤ k) ∧ Aside0 (Kd.R (Kd.int .i64) 3 w' w.heap.size (fun k_ => nS k_ Ca Ab.length Bu ∧ nV k_ Bn) v5 An) ∧ Aside0 (Kd.R (Kd.int .i64) 3 w' w.heap.size (fun k_ => nV k_ v5 ∧ nV k_ Bn) (.slice Ca Ab.length Bu) Ab) ∧ Aside0 (Kd.R (Kd.int .i64) 3 w' w.heap.size (fun k_ => nV k_ v5 ∧ nS k_ Ca Ab.length Bu) Bn Ae) ∧ Aside0 (w'.heap[Bd]? = some (.cells #[.int .i64 Ah, .int .i64 Ai, (.slice Av Af.length Aw)] 28 (0, 0))) ∧ Aside0 (Below w.heap.size w w'))
 case atStart => exact ⟨(Bg), (0), Z5, H', ⟨Nat.le_refl _⟩, ⟨by (with_reducible repeat (first | apply Kd.R_alloc | apply Kd.R_drewN | apply Kd.R_drew)); exact Kd.R_mono Al.out (fun _ hk => ⟨hk.1.2, hk.2⟩)⟩, ⟨Z58⟩, ⟨by (with_reducible repeat (first | apply Kd.R_alloc | apply Kd.R_drewN | apply Kd.R_drew)); exact Kd.R_mono Bt.out (fun _ hk => ⟨hk.2, hk.1⟩)⟩, ⟨Z21⟩, ⟨Z11⟩⟩
 case round =>
  clear H'; (try clear p2); (try clear c4); (try clear c5); (try clear Bh); (try clear Bi); (try clear Bj); (try clear Bk); (try clear Bl); (try clear Bm); obtain ⟨An, Aa, rfl, HA, HK1, Ax, Ao, Aj, Ac, HB⟩ := hrel; cases gk with
  | zero => exact absurd HA.out (by simp [impl_Chart_sizesOf.l0])
  | succ k1 =>
   have H := HA.out; clear HA
   simp only [impl_Chart_sizesOf.l0] at H
   by_cases Bp : Aa < (Ab.length : Int)
   ·rw [if_pos Bp] at H
    have c10b0 : decide (Aa < (Ab.length : Int)) = true := decide_eq_true Bp; clear Bp
    by_cases B0 : 0 ≤ Aa
    ·rw [if_pos B0] at H
     have c11b0 : decide (0 ≤ Aa) = true := decide_eq_true B0; clear B0
     by_cases B2 : Aa < (Ab.length : Int)
     ·rw [if_pos B2] at H
      have c12b0 : decide (Aa < (Ab.length : Int)) = true := decide_eq_true B2; clear B2
      by_cases B4 : Aa < (Ae.length : Int)
      ·rw [if_pos B4] at H
       have c13b0 : decide (Aa < (Ae.length : Int)) = true := decide_eq_true B4; clear B4
       by_cases Bo : (rd Ae Aa) = a1
       ·rw [if_pos Bo] at H
        have c14b0 : ((rd Ae Aa) == a1) = true := beq_iff_eq.mpr Bo; have c14b1 : ((rd Ae Aa) != a1) = false := bne_eq_false_iff_eq.mpr Bo; clear Bo
        by_cases B5 : An.length < 17592186044416
        ·rw [if_pos B5] at H
         have LMc15 := Aside0.mk B5; clear B5; obtain ⟨Bv, Am⟩ : ∃ y_ : List Int, y_ = (An ++ [rd Ab Aa]) := ⟨_, rfl⟩
         replace H : (impl_Chart_sizesOf.l0 k1 a1 Bv Ab Ae (Ab.length : Int) (wrap64 (Aa + 1))) = some r := by first | (rw [Am]; with_reducible exact H) | (have H2_ := (Option.bind_some _ _).symm.trans H; rw [Am]; with_reducible exact H2_) | (have H2_ := (Option.bind_some _ _).symm.trans H; with_reducible exact H2_) | with_reducible exact H | (rw [Am]; exact H) | exact H
         have Bw := Aside0.mk Am; clear Am; have H' := Aside0.mk H; clear H; have Ap : 0 ≤ (Aa : Int) := of_decide_eq_true Z3; have Aq : Aa < (Ab.length : Int) := of_decide_eq_true Z3; obtain ⟨ad331, e331, Ay⟩ := Kd.at_int (Kd.R_reads' Ao.out).2.2 Aa Ap Aq; cases e331; replace Ap := eq_true Ap; replace Aq := eq_true Aq; obtain ⟨Cj, Bx, Cb⟩ := Kd.R_slice Aj.out; subst Cb; have Ar : 0 ≤ (Aa : Int) := of_decide_eq_true Z3; have Au : Aa < (Ae.length : Int) := of_decide_eq_true Z3; obtain ⟨ad332, e332, Az⟩ := Kd.at_int (Kd.R_reads' Aj.out).2.2 Aa Ar Au; cases e332; replace Ar := eq_true Ar; replace Au := eq_true Au
         go_wp2_with (first | ((with_reducible refine gate_builtin (b := .append) (xs := #[.tmp 29, .tmp 31]) rfl ?_); at_builtin; refine Kd.R_append (Kd.int .i64) (w0 := w) w.heap.size rfl (.tmp 29) (.tmp 31) 22 3 (.int .i64 0) 8 rfl Try.underlying22 info3 rfl (by decide) (by omega) u5 An (rd Ab Aa) [.int .i64 (rd Ab Aa)] (fun k_ => some k_ ≠ (.slice (some ad331) Ab.length Bu : Value).ownBlock ∧ some k_ ≠ (.slice (some ad332) Ae.length Bx : Value).ownBlock) (fun _ => False) rfl rfl ?aP (fun _ hk => hk.elim) ?aF ?aO ?aB ?aS ?aL ?_; (case aP => exact rfl); (case aB => exact Z11); (case aF => exact (fun k_ hk => ⟨Kd.fresh' (Kd.R_lt Z29) k_ hk, Kd.fresh' (Kd.R_lt Z31) k_ hk⟩)); (case aO => exact Z107); (case aS => exact (below_size Z11)); (case aL => have := LMc15.out; omega); intro Ck Cn ho hb hg hat; rw [← Bw.out] at ho; replace Ao := aM (Kd.R_after (ok := (fun k_ => some k_ ≠ (.slice (some ad332) Ae.length Bx : Value).ownBlock)) Z94 hg hat); replace Aj := aM (Kd.R_after (ok := (fun k_ => some k_ ≠ (.slice (some ad331) Ab.length Bu : Value).ownBlock)) Z95 hg hat); replace Ac := aM (blk_grown (g := Bd) (o := .cells #[.int .i64 Ah, .int .i64 Ai, .slice Av Af.length Aw] 28 (0, 0)) Z21 hg (Kd.R_ne Ax.out Ac.out (by decide))); replace HB := aM (hb); have Bz := aM (ho); clear Ax; clear ho hb hg hat))
         go_roundg k1
         case measure => have := HK1.out; omega
         case rel => exact ⟨(Bv), (wrap64 (Aa + 1)), Z5, H', ⟨Z62⟩, ⟨by (with_reducible repeat (first | apply Kd.R_alloc | apply Kd.R_drewN | apply Kd.R_drew)); exact Bz.out⟩, ⟨Z94⟩, ⟨Z95⟩, ⟨Z21⟩, ⟨Z11⟩⟩
        ·rw [if_neg B5] at H
         exact absurd H (by simp)
       ·rw [if_neg Bo] at H
        have c14b0 : ((rd Ae Aa) == a1) = false := beq_eq_false_iff_ne.mpr Bo; have c14b1 : ((rd Ae Aa) != a1) = true := bne_iff_ne.mpr Bo; have H' := Aside0.mk H; clear H; have Ap : 0 ≤ (Aa : Int) := of_decide_eq_true Z3; have Aq : Aa < (Ab.length : Int) := of_decide_eq_true Z3; obtain ⟨ad331, e331, Ay⟩ := Kd.at_int (Kd.R_reads' Ao.out).2.2 Aa Ap Aq; cases e331; replace Ap := eq_true Ap; replace Aq := eq_true Aq; obtain ⟨Cl, Cm, Cc⟩ := Kd.R_slice Aj.out; subst Cc; have Ar : 0 ≤ (Aa : Int) := of_decide_eq_true Z3; have Au : Aa < (Ae.length : Int) := of_decide_eq_true Z3; obtain ⟨ad332, e332, Az⟩ := Kd.at_int (Kd.R_reads' Aj.out).2.2 Aa Ar Au; cases e332; replace Ar := eq_true Ar; replace Au := eq_true Au
        go_wp2
        go_roundg k1
        case measure => have := HK1.out; omega
        case rel => exact ⟨(An), (wrap64 (Aa + 1)), Z5, H', ⟨Z62⟩, ⟨Z107⟩, ⟨Z29⟩, ⟨Z31⟩, ⟨Z21⟩, ⟨Z11⟩⟩
      ·rw [if_neg B4] at H
       exact absurd H (by simp)
     ·rw [if_neg B2] at H
      exact absurd H (by simp)
    ·rw [if_neg B0] at H
     exact absurd H (by simp)
   ·rw [if_neg Bp] at H
    have c10b0 : decide (Aa < (Ab.length : Int)) = false := decide_eq_false Bp; clear Bp; obtain rfl := Option.some.inj H
    go_wp2
    go_ret
    exact ⟨_, Z4, by (with_reducible repeat (first | apply Kd.R_alloc | apply Kd.R_drewN | apply Kd.R_drew)); exact Kd.R_mono Ax.out (fun _ hk => trivial), Z11⟩
def impl_isColor.f (a0 : Int) : Option (Bool) := (impl_in.f a0 0 5).bind fun t336 => (some t336)
theorem impl_isColor.calls (a0 : Int) (r : Bool) (w : World) (h : impl_isColor.f a0 = some r) :
  Calls Try.prog 53 #[.int .i64 a0] w fun e w' => e = .returned (.bool r) ∧ Drawn0 w w' := by
 have H : ((impl_in.f a0 0 5).bind fun Aa => (some Aa)) = some r := h; clear h; replace H := Option.bind_eq_some_iff.mp H; obtain ⟨Aa, Ab, H⟩ := H; replace H : (some Aa) = some r := H; have A2 := Aside0.mk Ab; clear Ab; obtain rfl := Option.some.inj H
 go_enter Try.func53, Try.ntmps53
 go_wp2_with (first | ((with_reducible refine gate_callee (f := 59) rfl ?_); refine glE (some 4) Try.func59 #[.int .i64 a0, .int .i64 0, .int .i64 5] ?_; (with_reducible refine (impl_in.calls a0 0 5 Aa _ A2.out).mono ?_); rintro e w' ⟨rfl, ⟨nd, rfl⟩⟩; refine ⟨_, rfl, ?_⟩))
 go_ret
 exact ⟨Z5, Z23⟩
def impl_isSide.f (a0 : Int) : Option (Bool) := (impl_in.f a0 1 8).bind fun t337 => (some t337)
theorem impl_isSide.calls (a0 : Int) (r : Bool) (w : World) (h : impl_isSide.f a0 = some r) :
  Calls Try.prog 77 #[.int .i64 a0] w fun e w' => e = .returned (.bool r) ∧ Drawn0 w w' := by
 have H : ((impl_in.f a0 1 8).bind fun Aa => (some Aa)) = some r := h; clear h; replace H := Option.bind_eq_some_iff.mp H; obtain ⟨Aa, Ab, H⟩ := H; replace H : (some Aa) = some r := H; have A2 := Aside0.mk Ab; clear Ab; obtain rfl := Option.some.inj H
 go_enter Try.func77, Try.ntmps77
 go_wp2_with (first | ((with_reducible refine gate_callee (f := 59) rfl ?_); refine glE (some 4) Try.func59 #[.int .i64 a0, .int .i64 1, .int .i64 8] ?_; (with_reducible refine (impl_in.calls a0 1 8 Aa _ A2.out).mono ?_); rintro e w' ⟨rfl, ⟨nd, rfl⟩⟩; refine ⟨_, rfl, ?_⟩))
 go_ret
 exact ⟨Z5, Z23⟩
set_option maxHeartbeats 4000000 in
theorem IndexFunc_int (p : Int → Bool) (g : Nat) (lb : Array Value) (A : Option Addr) (c : Nat) (xs : List Int) (w : World)
  (eg : ∀ args w, (callFunc g args).run Try.prog w = .ok (.enter g args) w) (hr : Kd.C (Kd.int .i64) w A xs.length xs)
  (hp : ∀ (W : World) (x : Int), Below w.heap.size w W → Calls Try.prog g (#[.int .i64 x] ++ lb) W fun e w' => e = .returned (.bool (p x)) ∧ Below W.heap.size W w') :
  Calls Try.prog 107 #[.slice A xs.length c, .func (.func g) #[] lb] w fun e w' => e = .returned (.int .i64 (findI p xs)) ∧ Below w.heap.size w w' := by
 have hlen := Aside0.mk hr.2.1; have HR := Aside0.mk hr; have HP := Aside0.mk hp; clear hr hp
 go_enter Try.func107, Try.ntmps107
 go_wp2
 go_loopg [5, 8] xs.length (fun gg _ s8 wr => ∃ x : Int, s8 = .int .i64 x ∧ Aside0 (0 ≤ x ∧ x ≤ (xs.length : Int) ∧ (xs.length : Int) - x ≤ gg) ∧ Aside0 (Below w.heap.size w wr) ∧ Aside0 (∀ j : Nat, (j : Int) < x → p (xs.getD j 0) = false))
 case atStart => exact ⟨0, rfl, ⟨by omega, by omega, by omega⟩, ⟨Below.refl _ _⟩, ⟨fun j hj => absurd hj (by omega)⟩⟩
 case round =>
  obtain ⟨x, rfl, HX, BW, HA⟩ := hrel
  by_cases hlt : x < (xs.length : Int)
  ·have c0 : decide (x < (xs.length : Int)) = true := decide_eq_true hlt
   obtain ⟨ad, e0, Aa⟩ := Kd.at_int (Kd.C_below HR.out BW.out) x HX.out.1 hlt; cases e0; have c1 : decide (0 ≤ x) = true := decide_eq_true HX.out.1; have p0 := eq_true HX.out.1; have p1 := eq_true hlt; have HL := Aside0.mk hlt; clear hlt; have hcall := HP.out _ (rd xs x) BW.out; have hget : Aside0 (xs.getD x.toNat 0 = (rd xs x)) := ⟨rfl⟩; cases hq : p (rd xs x) with
   | true =>
    rw [hq] at hcall; have HQ := Aside0.mk hq; have HC := Aside0.mk hcall; clear hq hcall
    go_wp2_with fail
    refine HC.out.mono ?_; rintro e w' ⟨rfl, hb'⟩; have HB := aM (below_step BW.out hb'); clear hb'
    go_wp2
    go_ret
    refine ⟨?_, HB.out⟩; rw [findI_hit p 0 xs x.toNat (by have := HX.out; have := HL.out; omega) (fun j hj => HA.out j Z110) (by rw [hget.out]; exact HQ.out)]; rw [Int.toNat_of_nonneg HX.out.1]
    rfl
   | false =>
    rw [hq] at hcall; have HQ := Aside0.mk hq; have HC := Aside0.mk hcall; clear hq hcall
    go_wp2_with fail
    refine HC.out.mono ?_; rintro e w' ⟨rfl, hb'⟩; have HB := aM (below_step BW.out hb'); clear hb'
    go_wp2
    have hw1 : wrap64 (x + 1) = x + 1 := by have := HX.out; have := HL.out; have := hlen.out; unfold wrap64; omega
    go_roundg (xs.length - (x.toNat + 1))
    case measure => have := HX.out; have := HL.out; omega
    case rel =>
     refine ⟨x + 1, by first | rfl | rw [hw1] | simp [hw1], ⟨Z110, by have := HL.out; omega, by have := HX.out; have := HL.out; omega⟩, HB, ⟨fun j hj => ?_⟩⟩
     by_cases e : (j : Int) < x
     ·exact HA.out j e
     ·have hj' : j = x.toNat := by have := HX.out; omega
      subst hj'; rw [hget.out]
      exact HQ.out
  ·have c0 : decide (x < (xs.length : Int)) = false := decide_eq_false hlt
   have HL := Aside0.mk hlt; clear hlt
   go_wp2
   go_ret
   refine ⟨?_, BW.out⟩; rw [findI_miss p 0 xs (fun j hj => HA.out j (by have := HL.out; omega))]
   rfl
set_option maxHeartbeats 4000000 in
theorem ContainsFunc_int (p : Int → Bool) (g : Nat) (lb : Array Value) (A : Option Addr) (c : Nat) (xs : List Int) (w : World)
  (eg : ∀ args w, (callFunc g args).run Try.prog w = .ok (.enter g args) w) (hr : Kd.C (Kd.int .i64) w A xs.length xs)
  (hp : ∀ (W : World) (x : Int), Below w.heap.size w W → Calls Try.prog g (#[.int .i64 x] ++ lb) W fun e w' => e = .returned (.bool (p x)) ∧ Below W.heap.size W w') :
  Calls Try.prog 93 #[.slice A xs.length c, .func (.func g) #[] lb] w fun e w' => e = .returned (.bool (xs.any p)) ∧ Below w.heap.size w w' := by
 have HC := aM (IndexFunc_int p g lb A c xs w eg hr hp); clear hr hp eg; rw [← findI_any]
 go_enter Try.func93, Try.ntmps93
 go_wp2_with fail
 refine HC.out.mono ?_; rintro e w' ⟨rfl, hb'⟩
 go_wp2
 go_ret
 exact ⟨Z117, hb'⟩
set_option maxHeartbeats 4000000 in
theorem areAll_int_1 (p : Int → Bool) (g : Nat) (lb : Array Value) (b : Nat) (x : Int) (W : World)
  (eg : ∀ args w, (callFunc g args).run Try.prog w = .ok (.enter g args) w) (hc : W.cell? ⟨b, 0, none⟩ = some (.func (.func g) #[] lb))
  (hp : ∀ W1, Below W.heap.size W W1 → Calls Try.prog g (#[.int .i64 x] ++ lb) W1 fun e w' => e = .returned (.bool (p x)) ∧ Below W1.heap.size W1 w') (hb : b < W.heap.size) :
  Calls Try.prog 94 #[.int .i64 x, .pointer (some ⟨b, 0, none⟩)] W fun e w' => e = .returned (.bool (!p x)) ∧ Below W.heap.size W w' := by
 have HP := Aside0.mk hp; clear hp
 go_enter Try.func94, Try.ntmps94
 go_wp2_with fail
 refine (HP.out _ (Below.refl _ _)).mono ?_; rintro e w' ⟨rfl, hb'⟩
 go_wp2
 go_ret
 exact ⟨Z117, hb'⟩
set_option maxHeartbeats 4000000 in
theorem areAll_int (p : Int → Bool) (g : Nat) (lb : Array Value) (A : Option Addr) (c : Nat) (xs : List Int) (w : World)
  (eg : ∀ args w, (callFunc g args).run Try.prog w = .ok (.enter g args) w) (hr : Kd.C (Kd.int .i64) w A xs.length xs)
  (hp : ∀ (W : World) (x : Int), Below w.heap.size w W → Calls Try.prog g (#[.int .i64 x] ++ lb) W fun e w' => e = .returned (.bool (p x)) ∧ Below W.heap.size W w') :
  Calls Try.prog 78 #[.slice A xs.length c, .func (.func g) #[] lb] w fun e w' => e = .returned (.bool (xs.all p)) ∧ Below w.heap.size w w' := by
 have hmf : ∀ (fn : Fn) (first cap : Array Value) (w : World), (Instr.makeFunc fn first cap).run Try.prog w = .ok (.func fn first cap) w := fun _ _ _ _ => rfl
 have hB1 : Below w.heap.size w (w.alloc (.cells #[.func (.func g) #[] lb] 64)) := below_alloc (Below.refl _ _) _
 have Aa : (w.alloc (.cells #[.func (.func g) #[] lb] 64)).cell? ⟨w.heap.size, 0, none⟩ = some (.func (.func g) #[] lb) := by simp
 have hsz : w.heap.size < (w.alloc (.cells #[.func (.func g) #[] lb] 64)).heap.size := by simp
 have HC := aM (ContainsFunc_int (fun x => !p x) 94 #[.pointer (some ⟨w.heap.size, 0, none⟩)] A c xs (w.alloc (.cells #[.func (.func g) #[] lb] 64)) (enters_of Try.func94 Z35 rfl) (Kd.C_below hr hB1)
  (fun W x hW => areAll_int_1 p g lb w.heap.size x W eg ((hW.cell (p := ⟨w.heap.size, 0, none⟩) hsz).trans Aa) (fun W1 h1 => hp W1 x ((hB1.trans (hW.mono hB1.size)).trans (h1.mono (Nat.le_trans hB1.size hW.size)))) (Nat.lt_of_lt_of_le hsz hW.size)))
 have HB := Aside0.mk hB1; rw [← any_not]; clear hB1 Aa hsz hp hr eg
 go_enter Try.func78, Try.ntmps78
 go_wp2_with fail
 refine HC.out.mono ?_; rintro e w' ⟨rfl, hb'⟩
 go_wp2
 go_ret
 exact ⟨Z117, below_step HB.out hb'⟩
theorem impl_isColor.tot : ∀ x : Int, impl_isColor.f x = some ((fun x : Int => rng x 0 5) x) := fun x => by unfold impl_isColor.f; rw [impl_in.eq]; rfl
def areAll_impl_isColor.f (l0 : List Int) : Option Bool := some (l0.all (fun x : Int => rng x 0 5))
theorem areAll_impl_isColor.calls (A0 : Option Addr) (c0 : Nat) (l0 : List Int) (r : Bool) (w : World) (Aa : Kd.C (Kd.int .i64) w A0 l0.length l0) (Ac : l0.length ≤ c0) (h : areAll_impl_isColor.f l0 = some r) :
  Calls Try.prog 78 #[.slice A0 l0.length c0, .func (.func 53) #[] #[]] w fun e w' => e = .returned (.bool r) ∧ Below w.heap.size w w' := by
 have Ab := Option.some.inj h; subst Ab
 exact areAll_int (fun x : Int => rng x 0 5) 53 #[] A0 c0 l0 w (enters_of Try.func53 Z35 rfl) Aa (fun W x _ => (impl_isColor.calls x _ W (impl_isColor.tot x)).mono fun e w' ⟨he, hd⟩ => ⟨he, by first | exact hd | exact hd.below⟩)
def impl_IsChart.f (a0_0 : Int) (a0_1 : Int) (l0_2 : List Int) : Option (Bool) := (impl_isSide.f a0_0).bind fun t339 => (if t339 = true then ((impl_isSide.f a0_1).bind fun t340 => (if t340 = true then (if (l0_2.length : Int) = (wrap64 (a0_0 * a0_1)) then ((areAll_impl_isColor.f l0_2).bind fun t341 => (some t341)) else (some false)) else (some false))) else (some false))
theorem impl_IsChart.calls (Aa : Int) (Ac : Int) (Ah : Option Addr) (Ai : Nat) (Ab : List Int) (r : Bool) (w : World) (Am : Kd.C (Kd.int .i64) w Ah Ab.length Ab) (An : Ab.length ≤ Ai) (h : impl_IsChart.f Aa Ac Ab = some r) :
  Calls Try.prog 45 #[.agg #[.int .i64 Aa, .int .i64 Ac, .slice Ah Ab.length Ai]] w fun e w' => e = .returned (.bool r) ∧ Below w.heap.size w w' := by
 have hu28 := Try.underlying28; have Ao := Aside0.mk Am; have Ap := Aside0.mk An; clear Am An; have HB := aM (Below.refl w.heap.size w); have H : ((impl_isSide.f Aa).bind fun Al => (if Al = true then ((impl_isSide.f Ac).bind fun Ag => (if Ag = true then (if (Ab.length : Int) = (wrap64 (Aa * Ac)) then ((areAll_impl_isColor.f Ab).bind fun Af => (some Af)) else (some false)) else (some false))) else (some false))) = some r := h; clear h; replace H := Option.bind_eq_some_iff.mp H; obtain ⟨Al, Br, H⟩ := H; replace H : (if Al = true then ((impl_isSide.f Ac).bind fun Ag => (if Ag = true then (if (Ab.length : Int) = (wrap64 (Aa * Ac)) then ((areAll_impl_isColor.f Ab).bind fun Af => (some Af)) else (some false)) else (some false))) else (some false)) = some r := H; have A2 := Aside0.mk Br; clear Br
 by_cases c3 : Al = true
 ·subst c3
  have H1 : ((impl_isSide.f Ac).bind fun Ag => (if Ag = true then (if (Ab.length : Int) = (wrap64 (Aa * Ac)) then ((areAll_impl_isColor.f Ab).bind fun Af => (some Af)) else (some false)) else (some false))) = some r := by rw [if_pos rfl] at H; exact H
  clear H; have H := H1; clear H1; replace H := Option.bind_eq_some_iff.mp H; obtain ⟨Ag, Bs, H⟩ := H; replace H : (if Ag = true then (if (Ab.length : Int) = (wrap64 (Aa * Ac)) then ((areAll_impl_isColor.f Ab).bind fun Af => (some Af)) else (some false)) else (some false)) = some r := H; have A4 := Aside0.mk Bs; clear Bs
  by_cases c5 : Ag = true
  ·subst c5
   have H1 : (if (Ab.length : Int) = (wrap64 (Aa * Ac)) then ((areAll_impl_isColor.f Ab).bind fun Af => (some Af)) else (some false)) = some r := by rw [if_pos rfl] at H; exact H
   clear H; have H := H1; clear H1
   by_cases c6 : (Ab.length : Int) = (wrap64 (Aa * Ac))
   ·rw [if_pos c6] at H
    have c6b0 : ((Ab.length : Int) == (wrap64 (Aa * Ac))) = true := beq_iff_eq.mpr c6; have c6b1 : ((Ab.length : Int) != (wrap64 (Aa * Ac))) = false := bne_eq_false_iff_eq.mpr c6; clear c6; replace H := Option.bind_eq_some_iff.mp H; obtain ⟨Af, Bt, H⟩ := H; replace H : (some Af) = some r := H; have A7 := Aside0.mk Bt; clear Bt; obtain rfl := Option.some.inj H
    go_enter Try.func45, Try.ntmps45
    go_wp2_with (first | ((with_reducible refine gate_dst (N := 1) rfl ?_); (try (refine gate_guard (by rfl) ?_; dsimp only)); refine bxE 1 #[.int .i64 Aa, .int .i64 Ac, .slice Ah Ab.length Ai] 28 ?_; intro Aj hg w8 hbox hb; have Ad := aM (hbox); have Ak := gwS hg Z0; have Ae := gwS hg Z0; replace HB := hbS Z0 hb; clear hb hbox hg; obtain ⟨Bl, Bm, Bn⟩ := bz3 Ad; obtain ⟨Bo, Bp, Bq⟩ := fz3 Ad) | ((with_reducible refine gate_callee (f := 77) rfl ?_); refine glE (some 5) Try.func77 #[.int .i64 Aa] ?_; (with_reducible refine (impl_isSide.calls Aa true _ A2.out).mono ?_); rintro e w' ⟨rfl, ⟨nd, rfl⟩⟩; refine ⟨_, rfl, ?_⟩) | (go_at_call 77; (with_reducible refine (impl_isSide.calls Ac true _ A4.out).mono ?_); rintro e w' ⟨rfl, ⟨nd, rfl⟩⟩) | (go_at_call 78; (with_reducible refine (areAll_impl_isColor.calls _ _ Ab Af _ ?side1 ?side2 A7.out).mono ?_); (case side1 => repeat (first | exact (Kd.C_below Ao.out Z8) | (with_reducible refine Kd.C_alloc ?_ _) | (with_reducible refine Kd.C_drewN ?_ _) | (with_reducible refine Kd.C_drew ?_))); (case side2 => exact Ap.out); rintro e Bu ⟨rfl, hb⟩; replace Ad := bkB Ad hb; replace HB := hbS Z8 hb; (try clear hb)))
    go_ret
    exact ⟨Z4, Z8⟩
   ·rw [if_neg c6] at H
    have c6b0 : ((Ab.length : Int) == (wrap64 (Aa * Ac))) = false := beq_eq_false_iff_ne.mpr c6; have c6b1 : ((Ab.length : Int) != (wrap64 (Aa * Ac))) = true := bne_iff_ne.mpr c6; obtain rfl := Option.some.inj H
    go_enter Try.func45, Try.ntmps45
    go_wp2_with (first | ((with_reducible refine gate_dst (N := 1) rfl ?_); (try (refine gate_guard (by rfl) ?_; dsimp only)); refine bxE 1 #[.int .i64 Aa, .int .i64 Ac, .slice Ah Ab.length Ai] 28 ?_; intro Aj hg Bv hbox hb; have Ad := aM (hbox); have Ak := gwS hg Z0; have Ae := gwS hg Z0; replace HB := hbS Z0 hb; clear hb hbox hg; obtain ⟨Aq, Ar, Au⟩ := bz3 Ad; obtain ⟨Av, Aw, Ax⟩ := fz3 Ad) | ((with_reducible refine gate_callee (f := 77) rfl ?_); refine glE (some 5) Try.func77 #[.int .i64 Aa] ?_; (with_reducible refine (impl_isSide.calls Aa true _ A2.out).mono ?_); rintro e w' ⟨rfl, ⟨nd, rfl⟩⟩; refine ⟨_, rfl, ?_⟩) | (go_at_call 77; (with_reducible refine (impl_isSide.calls Ac true _ A4.out).mono ?_); rintro e w' ⟨rfl, ⟨nd, rfl⟩⟩))
    go_ret
    exact ⟨Z4, Z8⟩
  ·replace c5 := Bool.eq_false_iff.mpr c5
   subst c5
   have H1 : (some false) = some r := by rw [if_neg (show ¬ (false = true) by decide)] at H; exact H
   clear H; have H := H1; clear H1; obtain rfl := Option.some.inj H
   go_enter Try.func45, Try.ntmps45
   go_wp2_with (first | ((with_reducible refine gate_dst (N := 1) rfl ?_); (try (refine gate_guard (by rfl) ?_; dsimp only)); refine bxE 1 #[.int .i64 Aa, .int .i64 Ac, .slice Ah Ab.length Ai] 28 ?_; intro Aj hg Bw hbox hb; have Ad := aM (hbox); have Ak := gwS hg Z0; have Ae := gwS hg Z0; replace HB := hbS Z0 hb; clear hb hbox hg; obtain ⟨Ay, Az, Ba⟩ := bz3 Ad; obtain ⟨Bb, Bc, Bd⟩ := fz3 Ad) | ((with_reducible refine gate_callee (f := 77) rfl ?_); refine glE (some 5) Try.func77 #[.int .i64 Aa] ?_; (with_reducible refine (impl_isSide.calls Aa true _ A2.out).mono ?_); rintro e w' ⟨rfl, ⟨nd, rfl⟩⟩; refine ⟨_, rfl, ?_⟩) | (go_at_call 77; (with_reducible refine (impl_isSide.calls Ac false _ A4.out).mono ?_); rintro e w' ⟨rfl, ⟨nd, rfl⟩⟩))
   go_ret
   exact ⟨Z4, Z8⟩
 ·replace c3 := Bool.eq_false_iff.mpr c3
  subst c3
  have H1 : (some false) = some r := by rw [if_neg (show ¬ (false = true) by decide)] at H; exact H
  clear H; have H := H1; clear H1; obtain rfl := Option.some.inj H
  go_enter Try.func45, Try.ntmps45
  go_wp2_with (first | ((with_reducible refine gate_dst (N := 1) rfl ?_); (try (refine gate_guard (by rfl) ?_; dsimp only)); refine bxE 1 #[.int .i64 Aa, .int .i64 Ac, .slice Ah Ab.length Ai] 28 ?_; intro Aj hg Bx hbox hb; have Ad := aM (hbox); have Ak := gwS hg Z0; have Ae := gwS hg Z0; replace HB := hbS Z0 hb; clear hb hbox hg; obtain ⟨Bf, Bg, Bh⟩ := bz3 Ad; obtain ⟨Bi, Bj, Bk⟩ := fz3 Ad) | ((with_reducible refine gate_callee (f := 77) rfl ?_); refine glE (some 5) Try.func77 #[.int .i64 Aa] ?_; (with_reducible refine (impl_isSide.calls Aa false _ A2.out).mono ?_); rintro e w' ⟨rfl, ⟨nd, rfl⟩⟩; refine ⟨_, rfl, ?_⟩))
  go_ret
  exact ⟨Z4, Z8⟩
def impl_areLots_1.f (a0 : Int) : Option (Bool) := (impl_in.f a0 1 100).bind fun t342 => (some t342)
theorem impl_areLots_1.calls (a0 : Int) (r : Bool) (w : World) (h : impl_areLots_1.f a0 = some r) :
  Calls Try.prog 81 #[.int .i64 a0] w fun e w' => e = .returned (.bool r) ∧ Drawn0 w w' := by
 have H : ((impl_in.f a0 1 100).bind fun Aa => (some Aa)) = some r := h; clear h; replace H := Option.bind_eq_some_iff.mp H; obtain ⟨Aa, Ab, H⟩ := H; replace H : (some Aa) = some r := H; have A2 := Aside0.mk Ab; clear Ab; obtain rfl := Option.some.inj H
 go_enter Try.func81, Try.ntmps81
 go_wp2_with (first | ((with_reducible refine gate_callee (f := 59) rfl ?_); refine glE (some 4) Try.func59 #[.int .i64 a0, .int .i64 1, .int .i64 100] ?_; (with_reducible refine (impl_in.calls a0 1 100 Aa _ A2.out).mono ?_); rintro e w' ⟨rfl, ⟨nd, rfl⟩⟩; refine ⟨_, rfl, ?_⟩))
 go_ret
 exact ⟨Z5, Z23⟩
theorem impl_areLots_1.tot : ∀ x : Int, impl_areLots_1.f x = some ((fun x : Int => rng x 1 100) x) := fun x => by unfold impl_areLots_1.f; rw [impl_in.eq]; rfl
def areAll_impl_areLots_1.f (l0 : List Int) : Option Bool := some (l0.all (fun x : Int => rng x 1 100))
theorem areAll_impl_areLots_1.calls (A0 : Option Addr) (c0 : Nat) (l0 : List Int) (r : Bool) (w : World) (Aa : Kd.C (Kd.int .i64) w A0 l0.length l0) (Ac : l0.length ≤ c0) (h : areAll_impl_areLots_1.f l0 = some r) :
  Calls Try.prog 78 #[.slice A0 l0.length c0, .func (.func 81) #[] #[]] w fun e w' => e = .returned (.bool r) ∧ Below w.heap.size w w' := by
 have Ab := Option.some.inj h; subst Ab
 exact areAll_int (fun x : Int => rng x 1 100) 81 #[] A0 c0 l0 w (enters_of Try.func81 Z35 rfl) Aa (fun W x _ => (impl_areLots_1.calls x _ W (impl_areLots_1.tot x)).mono fun e w' ⟨he, hd⟩ => ⟨he, by first | exact hd | exact hd.below⟩)
def impl_areLots.f (l0 : List Int) : Option (Bool) := (impl_in.f (l0.length : Int) 1 6).bind fun t343 => (if t343 = true then ((areAll_impl_areLots_1.f l0).bind fun t344 => (some t344)) else (some false))
theorem impl_areLots.calls (A0 : Option Addr) (c0 : Nat) (l0 : List Int) (r : Bool) (w : World) (Ac : Kd.C (Kd.int .i64) w A0 l0.length l0) (Ad : l0.length ≤ c0) (h : impl_areLots.f l0 = some r) :
  Calls Try.prog 57 #[.slice A0 l0.length c0] w fun e w' => e = .returned (.bool r) ∧ Below w.heap.size w w' := by
 have Ag := Aside0.mk Ac; have Ah := Aside0.mk Ad; clear Ac Ad; have HB := aM (Below.refl w.heap.size w); have H : ((impl_in.f (l0.length : Int) 1 6).bind fun Ab => (if Ab = true then ((areAll_impl_areLots_1.f l0).bind fun Aa => (some Aa)) else (some false))) = some r := h; clear h; replace H := Option.bind_eq_some_iff.mp H; obtain ⟨Ab, Ae, H⟩ := H; replace H : (if Ab = true then ((areAll_impl_areLots_1.f l0).bind fun Aa => (some Aa)) else (some false)) = some r := H; have A2 := Aside0.mk Ae; clear Ae
 by_cases c3 : Ab = true
 ·subst c3
  have H1 : ((areAll_impl_areLots_1.f l0).bind fun Aa => (some Aa)) = some r := by rw [if_pos rfl] at H; exact H
  clear H; have H := H1; clear H1; replace H := Option.bind_eq_some_iff.mp H; obtain ⟨Aa, Af, H⟩ := H; replace H : (some Aa) = some r := H; have A4 := Aside0.mk Af; clear Af; obtain rfl := Option.some.inj H
  go_enter Try.func57, Try.ntmps57
  go_wp2_with (first | ((with_reducible refine gate_callee (f := 59) rfl ?_); refine glE (some 5) Try.func59 #[.int .i64 (l0.length : Int), .int .i64 1, .int .i64 6] ?_; (with_reducible refine (impl_in.calls (l0.length : Int) 1 6 true _ A2.out).mono ?_); rintro e w' ⟨rfl, ⟨nd, rfl⟩⟩; refine ⟨_, rfl, ?_⟩) | (go_at_call 78; (with_reducible refine (areAll_impl_areLots_1.calls _ _ l0 Aa _ ?side1 ?side2 A4.out).mono ?_); (case side1 => exact (by repeat (first | exact Ag.out | (with_reducible refine Kd.C_alloc ?_ _) | (with_reducible refine Kd.C_drewN ?_ _) | (with_reducible refine Kd.C_drew ?_)))); (case side2 => exact Ah.out); rintro e w5 ⟨rfl, hb⟩; replace HB := hbS Z0 hb; (try clear hb)))
  go_ret
  exact ⟨Z4, Z0⟩
 ·replace c3 := Bool.eq_false_iff.mpr c3
  subst c3
  have H1 : (some false) = some r := by rw [if_neg (show ¬ (false = true) by decide)] at H; exact H
  clear H; have H := H1; clear H1; obtain rfl := Option.some.inj H
  go_enter Try.func57, Try.ntmps57
  go_wp2_with (first | ((with_reducible refine gate_callee (f := 59) rfl ?_); refine glE (some 5) Try.func59 #[.int .i64 (l0.length : Int), .int .i64 1, .int .i64 6] ?_; (with_reducible refine (impl_in.calls (l0.length : Int) 1 6 false _ A2.out).mono ?_); rintro e w' ⟨rfl, ⟨nd, rfl⟩⟩; refine ⟨_, rfl, ?_⟩))
  go_ret
  exact ⟨Z4, Z0⟩
def impl_hasFewAreas.f (k : Nat) (a0_0 : Int) (a0_1 : Int) (l0_2 : List Int) (a1 : Int) (l2 : List Int) : Option (Bool) := (impl_IsChart.f a0_0 a0_1 l0_2).bind fun t346 => (if t346 = true then ((impl_isColor.f a1).bind fun t347 => (if t347 = true then ((impl_areLots.f l2).bind fun t348 => (if t348 = true then ((impl_Chart_sizesOf.f k a0_0 a0_1 l0_2 a1).bind fun t349 => (some (decide ((t349.length : Int) ≤ 8)))) else (some false))) else (some false))) else (some false))
theorem impl_hasFewAreas.calls (k : Nat) (Ad : Int) (Ae : Int) (Ah : Option Addr) (Ai : Nat) (Ab : List Int) (a1 : Int) (A2 : Option Addr) (c2 : Nat) (l2 : List Int) (r : Bool) (w : World) (Ap : Kd.C (Kd.int .i64) w Ah Ab.length Ab) (Aq : Ab.length ≤ Ai) (B4 : Kd.C (Kd.int .i64) w A2 l2.length l2) (B5 : l2.length ≤ c2) (h : impl_hasFewAreas.f k Ad Ae Ab a1 l2 = some r) :
  Calls Try.prog 61 #[.agg #[.int .i64 Ad, .int .i64 Ae, .slice Ah Ab.length Ai], .int .i64 a1, .slice A2 l2.length c2] w fun e w' => e = .returned (.bool r) ∧ Below w.heap.size w w' := by
 have hu28 := Try.underlying28; have Aj := Aside0.mk Ap; have Ak := Aside0.mk Aq; clear Ap Aq; have B6 := Aside0.mk B4; have B7 := Aside0.mk B5; clear B4 B5; have HB := aM (Below.refl w.heap.size w); have H : ((impl_IsChart.f Ad Ae Ab).bind fun Ao => (if Ao = true then ((impl_isColor.f a1).bind fun Al => (if Al = true then ((impl_areLots.f l2).bind fun Ag => (if Ag = true then ((impl_Chart_sizesOf.f k Ad Ae Ab a1).bind fun Af => (some (decide ((Af.length : Int) ≤ 8)))) else (some false))) else (some false))) else (some false))) = some r := h; clear h; replace H := Option.bind_eq_some_iff.mp H; obtain ⟨Ao, Ca, H⟩ := H; replace H : (if Ao = true then ((impl_isColor.f a1).bind fun Al => (if Al = true then ((impl_areLots.f l2).bind fun Ag => (if Ag = true then ((impl_Chart_sizesOf.f k Ad Ae Ab a1).bind fun Af => (some (decide ((Af.length : Int) ≤ 8)))) else (some false))) else (some false))) else (some false)) = some r := H; have A4 := Aside0.mk Ca; clear Ca
 by_cases c5 : Ao = true
 ·subst c5
  have H1 : ((impl_isColor.f a1).bind fun Al => (if Al = true then ((impl_areLots.f l2).bind fun Ag => (if Ag = true then ((impl_Chart_sizesOf.f k Ad Ae Ab a1).bind fun Af => (some (decide ((Af.length : Int) ≤ 8)))) else (some false))) else (some false))) = some r := by rw [if_pos rfl] at H; exact H
  clear H; have H := H1; clear H1; replace H := Option.bind_eq_some_iff.mp H; obtain ⟨Al, Cb, H⟩ := H; replace H : (if Al = true then ((impl_areLots.f l2).bind fun Ag => (if Ag = true then ((impl_Chart_sizesOf.f k Ad Ae Ab a1).bind fun Af => (some (decide ((Af.length : Int) ≤ 8)))) else (some false))) else (some false)) = some r := H; have A6 := Aside0.mk Cb; clear Cb
  by_cases c7 : Al = true
  ·subst c7
   have H1 : ((impl_areLots.f l2).bind fun Ag => (if Ag = true then ((impl_Chart_sizesOf.f k Ad Ae Ab a1).bind fun Af => (some (decide ((Af.length : Int) ≤ 8)))) else (some false))) = some r := by rw [if_pos rfl] at H; exact H
   clear H; have H := H1; clear H1; replace H := Option.bind_eq_some_iff.mp H; obtain ⟨Ag, Cc, H⟩ := H; replace H : (if Ag = true then ((impl_Chart_sizesOf.f k Ad Ae Ab a1).bind fun Af => (some (decide ((Af.length : Int) ≤ 8)))) else (some false)) = some r := H; have A8 := Aside0.mk Cc; clear Cc
   by_cases c9 : Ag = true
   ·subst c9
    have H1 : ((impl_Chart_sizesOf.f k Ad Ae Ab a1).bind fun Af => (some (decide ((Af.length : Int) ≤ 8)))) = some r := by rw [if_pos rfl] at H; exact H
    clear H; have H := H1; clear H1; replace H := Option.bind_eq_some_iff.mp H; obtain ⟨Af, Ar, H⟩ := H; replace H : (some (decide ((Af.length : Int) ≤ 8))) = some r := H; have Ce := Aside0.mk Ar; clear Ar; obtain rfl := Option.some.inj H
    go_enter Try.func61, Try.ntmps61
    go_wp2_with (first | ((with_reducible refine gate_dst (N := 3) rfl ?_); (try (refine gate_guard (by rfl) ?_; dsimp only)); refine bxE 3 #[.int .i64 Ad, .int .i64 Ae, .slice Ah Ab.length Ai] 28 ?_; intro Am hg Ci hbox hb; have Aa := aM (hbox); have An := gwS hg Z0; have Ac := gwS hg Z0; replace HB := hbS Z0 hb; clear hb hbox hg; obtain ⟨Av, Aw, Ax⟩ := bz3 Aa; obtain ⟨Ay, Az, Ba⟩ := fz3 Aa) | ((with_reducible refine gate_callee (f := 45) rfl ?_); refine glE (some 8) Try.func45 #[.agg #[.int .i64 Ad, .int .i64 Ae, .slice Ah Ab.length Ai]] ?_; (with_reducible refine (impl_IsChart.calls Ad Ae _ _ Ab true _ ?side1 ?side2 A4.out).mono ?_); (case side1 => exact Z26); (case side2 => exact Ak.out); rintro e Cj ⟨rfl, hb⟩; refine ⟨_, rfl, ?_⟩; replace Aa := bkB Aa hb; replace HB := hbS Z1 hb; (try clear hb)) | (go_at_call 53; (with_reducible refine (impl_isColor.calls a1 true _ A6.out).mono ?_); rintro e w' ⟨rfl, ⟨nd, rfl⟩⟩) | (go_at_call 57; (with_reducible refine (impl_areLots.calls _ _ l2 true _ ?side1 ?side2 A8.out).mono ?_); (case side1 => repeat (first | exact (Kd.C_below B6.out Z1) | (with_reducible refine Kd.C_alloc ?_ _) | (with_reducible refine Kd.C_drewN ?_ _) | (with_reducible refine Kd.C_drew ?_))); (case side2 => exact B7.out); rintro e Ck ⟨rfl, hb⟩; replace Aa := bkB Aa hb; replace HB := hbS Z1 hb; (try clear hb); obtain ⟨Bb, Bc, Bd⟩ := bz3 Aa; obtain ⟨Bf, Bg, Bh⟩ := fz3 Aa) | (go_at_call 54; (with_reducible refine (impl_Chart_sizesOf.calls k Ad Ae _ _ Ab a1 Af _ ?side1 ?side2 Ce.out).mono ?_); (case side1 => exact Z26); (case side2 => exact Ak.out); rintro e Cl ⟨Cf, rfl, Cd, hb⟩; have Au := aM (Kd.R_lower Cd (below_size Z1)); replace Aa := bkB Aa hb; replace HB := hbS Z1 hb; (try clear hb); (try clear Cd); obtain ⟨Cg, Ch, B2⟩ := Kd.R_slice Au.out; subst B2))
    go_ret
    exact ⟨Z4, Z1⟩
   ·replace c9 := Bool.eq_false_iff.mpr c9
    subst c9
    have H1 : (some false) = some r := by rw [if_neg (show ¬ (false = true) by decide)] at H; exact H
    clear H; have H := H1; clear H1; obtain rfl := Option.some.inj H
    go_enter Try.func61, Try.ntmps61
    go_wp2_with (first | ((with_reducible refine gate_dst (N := 3) rfl ?_); (try (refine gate_guard (by rfl) ?_; dsimp only)); refine bxE 3 #[.int .i64 Ad, .int .i64 Ae, .slice Ah Ab.length Ai] 28 ?_; intro Am hg Cm hbox hb; have Aa := aM (hbox); have An := gwS hg Z0; have Ac := gwS hg Z0; replace HB := hbS Z0 hb; clear hb hbox hg; obtain ⟨Bi, Bj, Bk⟩ := bz3 Aa; obtain ⟨Bl, Bm, Bn⟩ := fz3 Aa) | ((with_reducible refine gate_callee (f := 45) rfl ?_); refine glE (some 8) Try.func45 #[.agg #[.int .i64 Ad, .int .i64 Ae, .slice Ah Ab.length Ai]] ?_; (with_reducible refine (impl_IsChart.calls Ad Ae _ _ Ab true _ ?side1 ?side2 A4.out).mono ?_); (case side1 => exact Z26); (case side2 => exact Ak.out); rintro e Cn ⟨rfl, hb⟩; refine ⟨_, rfl, ?_⟩; replace Aa := bkB Aa hb; replace HB := hbS Z1 hb; (try clear hb)) | (go_at_call 53; (with_reducible refine (impl_isColor.calls a1 true _ A6.out).mono ?_); rintro e w' ⟨rfl, ⟨nd, rfl⟩⟩) | (go_at_call 57; (with_reducible refine (impl_areLots.calls _ _ l2 false _ ?side1 ?side2 A8.out).mono ?_); (case side1 => repeat (first | exact (Kd.C_below B6.out Z1) | (with_reducible refine Kd.C_alloc ?_ _) | (with_reducible refine Kd.C_drewN ?_ _) | (with_reducible refine Kd.C_drew ?_))); (case side2 => exact B7.out); rintro e Co ⟨rfl, hb⟩; replace Aa := bkB Aa hb; replace HB := hbS Z1 hb; (try clear hb)))
    go_ret
    exact ⟨Z4, Z1⟩
  ·replace c7 := Bool.eq_false_iff.mpr c7
   subst c7
   have H1 : (some false) = some r := by rw [if_neg (show ¬ (false = true) by decide)] at H; exact H
   clear H; have H := H1; clear H1; obtain rfl := Option.some.inj H
   go_enter Try.func61, Try.ntmps61
   go_wp2_with (first | ((with_reducible refine gate_dst (N := 3) rfl ?_); (try (refine gate_guard (by rfl) ?_; dsimp only)); refine bxE 3 #[.int .i64 Ad, .int .i64 Ae, .slice Ah Ab.length Ai] 28 ?_; intro Am hg Cp hbox hb; have Aa := aM (hbox); have An := gwS hg Z0; have Ac := gwS hg Z0; replace HB := hbS Z0 hb; clear hb hbox hg; obtain ⟨Bo, Bp, Bq⟩ := bz3 Aa; obtain ⟨Br, Bs, Bt⟩ := fz3 Aa) | ((with_reducible refine gate_callee (f := 45) rfl ?_); refine glE (some 8) Try.func45 #[.agg #[.int .i64 Ad, .int .i64 Ae, .slice Ah Ab.length Ai]] ?_; (with_reducible refine (impl_IsChart.calls Ad Ae _ _ Ab true _ ?side1 ?side2 A4.out).mono ?_); (case side1 => exact Z26); (case side2 => exact Ak.out); rintro e Cq ⟨rfl, hb⟩; refine ⟨_, rfl, ?_⟩; replace Aa := bkB Aa hb; replace HB := hbS Z1 hb; (try clear hb)) | (go_at_call 53; (with_reducible refine (impl_isColor.calls a1 false _ A6.out).mono ?_); rintro e w' ⟨rfl, ⟨nd, rfl⟩⟩))
   go_ret
   exact ⟨Z4, Z1⟩
 ·replace c5 := Bool.eq_false_iff.mpr c5
  subst c5
  have H1 : (some false) = some r := by rw [if_neg (show ¬ (false = true) by decide)] at H; exact H
  clear H; have H := H1; clear H1; obtain rfl := Option.some.inj H
  go_enter Try.func61, Try.ntmps61
  go_wp2_with (first | ((with_reducible refine gate_dst (N := 3) rfl ?_); (try (refine gate_guard (by rfl) ?_; dsimp only)); refine bxE 3 #[.int .i64 Ad, .int .i64 Ae, .slice Ah Ab.length Ai] 28 ?_; intro Am hg Cr hbox hb; have Aa := aM (hbox); have An := gwS hg Z0; have Ac := gwS hg Z0; replace HB := hbS Z0 hb; clear hb hbox hg; obtain ⟨Bu, Bv, Bw⟩ := bz3 Aa; obtain ⟨Bx, Bz, B0⟩ := fz3 Aa) | ((with_reducible refine gate_callee (f := 45) rfl ?_); refine glE (some 8) Try.func45 #[.agg #[.int .i64 Ad, .int .i64 Ae, .slice Ah Ab.length Ai]] ?_; (with_reducible refine (impl_IsChart.calls Ad Ae _ _ Ab false _ ?side1 ?side2 A4.out).mono ?_); (case side1 => exact Z26); (case side2 => exact Ak.out); rintro e Cs ⟨rfl, hb⟩; refine ⟨_, rfl, ?_⟩; replace Aa := bkB Aa hb; replace HB := hbS Z1 hb; (try clear hb)))
  go_ret
  exact ⟨Z4, Z1⟩
end Go.Proofs.Ytaadbpibmlnncaa.H
