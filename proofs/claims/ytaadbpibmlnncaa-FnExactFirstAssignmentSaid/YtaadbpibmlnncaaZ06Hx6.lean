-- by wip/pack.py of this repo
import Derived.Test.YtaadbpibmlnncaaZ06Hx0
import Derived.Test.YtaadbpibmlnncaaZ06Hx4
import Derived.Test.YtaadbpibmlnncaaZ06Hx5
import Derived.Test.YtaadbpibmlnncaaZ06WApart
import Derived.Test.YtaadbpibmlnncaaZ06WGuard
import Derived.Test.YtaadbpibmlnncaaZ06WKept
import Derived.Test.YtaadbpibmlnncaaZ06WLast
import Derived.Test.YtaadbpibmlnncaaZ06WMore
import Derived.Test.YtaadbpibmlnncaaZ06WWords
import Derived.Test.YtaadbpibmlnncaaZ06Short
namespace Go.Proofs.Ytaadbpibmlnncaa.H
open Go.RowKit Go.Proofs.YtaadbpibmlnncaaW.PrintWords Go.Proofs.YtaadbpibmlnncaaW.PrintLast Go.Proofs.YtaadbpibmlnncaaW.PrintMore
attribute [local go_sem] max2_int min2_int max_two min_two max_three min_three max_four min_four
set_option maxHeartbeats 8000000
set_option maxRecDepth 100000
set_option linter.unusedVariables false
set_option linter.unusedSimpArgs false
def impl_Chart_sizes.l0 : Nat → List Int → List Int → List Int → Int → Int → Int → Int → List Int → Option (List Int × List Int)
 | 0, _, _, _, _, _, _, _, _ => none
 | k + 1, x4, x6, x7, x20, x21, x314000, x314001, x314002 => if x21 < x20 then (if 0 ≤ x21 then (if x21 < (x4.length : Int) then (if 0 ≤ (rd x4 x21) then (if (rd x4 x21) < (x6.length : Int) then (if x21 < (x314002.length : Int) then (if (rd x4 x21) < (x7.length : Int) then (impl_Chart_sizes.l0 k x4 (x6.set ((rd x4 x21) : Int).toNat (wrap64 ((rd x6 (rd x4 x21)) + 1))) (x7.set ((rd x4 x21) : Int).toNat (rd x314002 x21)) x20 (wrap64 (x21 + 1)) x314000 x314001 x314002) else (none)) else (none)) else (none)) else (none)) else (none)) else (none)) else (some (x6, x7))
def impl_Chart_sizes.f (k : Nat) (a0_0 : Int) (a0_1 : Int) (l0_2 : List Int) : Option (List Int × List Int) := (impl_Chart_areas.f k a0_0 a0_1 l0_2).bind fun bt314 => (if 0 ≤ bt314.2 then (if (bt314.2 : Int).toNat ≤ 35184372088832 then (impl_Chart_sizes.l0 k bt314.1 (List.replicate (bt314.2 : Int).toNat 0) (List.replicate (bt314.2 : Int).toNat 0) (bt314.1.length : Int) 0 a0_0 a0_1 l0_2) else (none)) else (none))
theorem impl_Chart_sizes.calls (k : Nat) (Ah : Int) (Ai : Int) (Ba : Option Addr) (Ax : Nat) (Ae : List Int) (r1 : List Int) (r2 : List Int) (w : World) (Bt : Kd.C (Kd.int .i64) w Ba Ae.length Ae) (Bu : Ae.length ≤ Ax) (h : impl_Chart_sizes.f k Ah Ai Ae = some (r1, r2)) :
  Calls Try.prog 48 #[.agg #[.int .i64 Ah, .int .i64 Ai, .slice Ba Ae.length Ax]] w fun e w' => ∃ v0_ v1_ : Value, e = .returned (.tuple #[v0_, v1_]) ∧ Kd.R (Kd.int .i64) 3 w' w.heap.size (fun k_ => nV k_ v1_) v0_ r1 ∧ Kd.R (Kd.int .i64) 3 w' w.heap.size (fun k_ => nV k_ v0_) v1_ r2 ∧ Below w.heap.size w w' := by
 have hu28 := Try.underlying28; have Bv := Aside0.mk Bt; have Ci := Aside0.mk Bu; clear Bt Bu; have HB := aM (Below.refl w.heap.size w); have H : ((impl_Chart_areas.f k Ah Ai Ae).bind fun Aw => (if 0 ≤ Aw.2 then (if (Aw.2 : Int).toNat ≤ 35184372088832 then (impl_Chart_sizes.l0 k Aw.1 (List.replicate (Aw.2 : Int).toNat 0) (List.replicate (Aw.2 : Int).toNat 0) (Aw.1.length : Int) 0 Ah Ai Ae) else (none)) else (none))) = some (r1, r2) := h; clear h; replace H := Option.bind_eq_some_iff.mp H; obtain ⟨⟨Ab, Ag⟩, Di, H⟩ := H; replace H : (if 0 ≤ Ag then (if (Ag : Int).toNat ≤ 35184372088832 then (impl_Chart_sizes.l0 k Ab (List.replicate (Ag : Int).toNat 0) (List.replicate (Ag : Int).toNat 0) (Ab.length : Int) 0 Ah Ai Ae) else (none)) else (none)) = some (r1, r2) := H; have A2 := Aside0.mk Di; clear Di
 by_cases c3 : 0 ≤ Ag
 ·rw [if_pos c3] at H
  have c3b0 := eq_true c3; have c3b1 : decide (0 ≤ Ag) = true := decide_eq_true c3; clear c3
  by_cases c4 : (Ag : Int).toNat ≤ 35184372088832
  ·rw [if_pos c4] at H
   have c4b0 := eq_true c4; have c4b1 : decide ((Ag : Int).toNat ≤ 35184372088832) = true := decide_eq_true c4; clear c4; obtain ⟨Bo, Bb⟩ : ∃ y_ : List Int, y_ = (List.replicate (Ag : Int).toNat 0) := ⟨_, rfl⟩
   replace H : (impl_Chart_sizes.l0 k Ab Bo (List.replicate (Ag : Int).toNat 0) (Ab.length : Int) 0 Ah Ai Ae) = some (r1, r2) := by first | (rw [Bb]; with_reducible exact H) | (have H2_ := (Option.bind_some _ _).symm.trans H; rw [Bb]; with_reducible exact H2_) | (have H2_ := (Option.bind_some _ _).symm.trans H; with_reducible exact H2_) | with_reducible exact H | (rw [Bb]; exact H) | exact H
   have Bk := Aside0.mk Bb; clear Bb; obtain ⟨Bq, Bc⟩ : ∃ y_ : List Int, y_ = (List.replicate (Ag : Int).toNat 0) := ⟨_, rfl⟩
   replace H : (impl_Chart_sizes.l0 k Ab Bo Bq (Ab.length : Int) 0 Ah Ai Ae) = some (r1, r2) := by first | (rw [Bc]; with_reducible exact H) | (have H2_ := (Option.bind_some _ _).symm.trans H; rw [Bc]; with_reducible exact H2_) | (have H2_ := (Option.bind_some _ _).symm.trans H; with_reducible exact H2_) | with_reducible exact H | (rw [Bc]; exact H) | exact H
   have Bl := Aside0.mk Bc; clear Bc; have H' := Aside0.mk H; clear H
   go_enter Try.func48, Try.ntmps48
   try go_wp2_with (first | ((with_reducible refine gate_dst (N := 1) rfl ?_); refine bxE 1 #[.int .i64 Ah, .int .i64 Ai, .slice Ba Ae.length Ax] 28 ?_; intro Bd hg w5 hbox hb; have Ac := aM (hbox); have Dj := gwS hg Z0; have Af := gwS hg Z0; replace HB := hbS Z0 hb; clear hb hbox hg; obtain ⟨Bw, Bx, Bz⟩ := bz3 Ac; obtain ⟨B0, B2, B4⟩ := fz3 Ac) | ((with_reducible refine gate_callee (f := 46) rfl ?_); refine glE (some 12) Try.func46 #[.agg #[.int .i64 Ah, .int .i64 Ai, .slice Ba Ae.length Ax]] ?_; (with_reducible refine (impl_Chart_areas.calls k Ah Ai _ _ Ae Ab Ag _ ?side1 ?side2 A2.out).mono ?_); (case side1 => exact Z76); (case side2 => exact Ci.out); rintro e w7 ⟨Bm, rfl, Dk, hb⟩; refine ⟨_, rfl, ?_⟩; have Ad := aM (Kd.R_lower Dk (below_size Z2)); replace Ac := bkB Ac hb; replace HB := hbS Z2 hb; (try clear hb); (try clear Dk)))
   replace Ad := aM (Kd.R_drew Ad.out); replace Ac := aM (blk_drew Ac.out); replace HB := aM (below_drew1 HB.out); refine start_ (n := 6) (S := fun w' => True) (ds := []) #[false, false, false, false, false, false] Z33 rfl rfl trivial (fun hHeld => ?_)
   generalize w7.drew = w8 at Ad Ac HB hHeld ⊢
   refine puK 0 15 #[true, false, false, false, false, false] rfl rfl ?_; refine puK 2 17 #[true, false, true, false, false, false] rfl rfl ?_; refine join_ (σ := Value × Value) 1 #[true, true, true, true, true, false] (fun s_ => [(16, s_.1), (18, s_.2), (6, s_.1)]) (fun s_ w' => (Kd.R (Kd.int .i64) 3 w' w.heap.size (fun k_ => some k_ ≠ (s_.1 : Value).ownBlock ∧ some k_ ≠ (s_.2 : Value).ownBlock) Bm Ab) ∧ (Kd.R (Kd.int .i64) 3 w' w.heap.size (fun k_ => nV k_ Bm ∧ some k_ ≠ (s_.2 : Value).ownBlock) s_.1 Bo) ∧ (Kd.R (Kd.int .i64) 3 w' w.heap.size (fun k_ => nV k_ Bm ∧ some k_ ≠ (s_.1 : Value).ownBlock) s_.2 Bq) ∧ (w'.heap[Bd]? = some (.cells #[.int .i64 Ah, .int .i64 Ai, .slice Ba Ae.length Ax] 28 (0, 0))) ∧ (Below w.heap.size w w')) ?_ ?_
   rotate_left
   ·intro hCont
    refine two_ (i := 1) (j := 3) (Ni := some 16) (Nj := some 18) #[true, true, true, false, false, false] #[true, false, true, true, false, false] rfl rfl rfl rfl Z33 (by decide) (by decide) (fun K hK => ?_) (fun K hK => ?_)
    ·skip
     refine Kd.R_make_step (Kd.int .i64) _ 3 (by rfl) (N := 16) rfl 22 _ _ rfl Ag rfl rfl Try.underlying22 (.int .i64 0) 8 info3 rfl (by decide) (by omega) 0 (ok := fun _ => True) (okp := fun _ => True) rfl (fun _ hk => hk) trivial (of_decide_eq_true Z3) (Nat.le_trans (Nat.mul_le_mul_right _ (of_decide_eq_true Z3 : Ag.toNat ≤ 35184372088832)) (by omega)) (Below.refl _ _) (Nat.le_refl _) ?_; intro Ar w9 Am hb hg_ hnew_; clear hg_ hnew_
     (first | rw [← Bk.out] at Am | (simp only [Int.reduceToNat] at Am; rw [← Bk.out] at Am))
     have An := aM (Kd.R_lower (Kd.R_new' Am (Kd.R_lt Z18)) (below_size Z2)); replace Ad := aM (Kd.R_elder' Z18 (Kd.R_base Am) hb); replace Ac := bkB Ac hb; replace HB := hbS Z2 hb; clear hb Am; refine hK.out _ _ trivial (fun hHeld => ?_); clear hK K; refine noR 16 ?_; refine puK 4 6 #[true, true, true, false, true, false] rfl rfl ?_; refine one_ (i := 3) (N := some 18) #[true, true, true, true, true, false] rfl rfl Z33 (by decide) (fun K hK => ?_); refine Kd.R_make_step (Kd.int .i64) _ 3 (by rfl) (N := 18) rfl 22 _ _ rfl Ag rfl rfl Try.underlying22 (.int .i64 0) 8 info3 rfl (by decide) (by omega) 0 (ok := fun _ => True) (okp := fun _ => True) rfl (fun _ hk => hk) trivial (of_decide_eq_true Z3) (Nat.le_trans (Nat.mul_le_mul_right _ (of_decide_eq_true Z3 : Ag.toNat ≤ 35184372088832)) (by omega)) (Below.refl _ _) (Nat.le_refl _) ?_; intro Ap Dl Ak hb hg_ hnew_; clear hg_ hnew_
     (first | rw [← Bl.out] at Ak | (simp only [Int.reduceToNat] at Ak; rw [← Bl.out] at Ak))
     have Ao := aM (Kd.R_lower (Kd.R_new' (Kd.R_new' Ak (Kd.R_lt Z18)) (Kd.R_lt Z41)) (below_size Z2)); replace Ad := aM (Kd.R_elder' Z18 (Kd.R_base Ak) hb); replace An := aM (Kd.R_elder' Z41 (Kd.R_base Ak) hb); replace Ac := bkB Ac hb; replace HB := hbS Z2 hb; clear hb Ak; refine hK.out _ _ trivial (fun hHeld => ?_); clear hK K; refine noR 18 ?_
     exact norm_ Z72 (hCont (Ar, Ap) _ ⟨Z105, Z50, Z51, Z13, Z2⟩)
    ·skip
     refine Kd.R_make_step (Kd.int .i64) _ 3 (by rfl) (N := 18) rfl 22 _ _ rfl Ag rfl rfl Try.underlying22 (.int .i64 0) 8 info3 rfl (by decide) (by omega) 0 (ok := fun _ => True) (okp := fun _ => True) rfl (fun _ hk => hk) trivial (of_decide_eq_true Z3) (Nat.le_trans (Nat.mul_le_mul_right _ (of_decide_eq_true Z3 : Ag.toNat ≤ 35184372088832)) (by omega)) (Below.refl _ _) (Nat.le_refl _) ?_; intro Ap w9 Am hb hg_ hnew_; clear hg_ hnew_
     (first | rw [← Bl.out] at Am | (simp only [Int.reduceToNat] at Am; rw [← Bl.out] at Am))
     have Ao := aM (Kd.R_lower (Kd.R_new' Am (Kd.R_lt Z18)) (below_size Z2)); replace Ad := aM (Kd.R_elder' Z18 (Kd.R_base Am) hb); replace Ac := bkB Ac hb; replace HB := hbS Z2 hb; clear hb Am; refine hK.out _ _ trivial (fun hHeld => ?_); clear hK K; refine noR 18 ?_; refine one_ (i := 1) (N := some 16) #[true, true, true, true, false, false] rfl rfl Z33 (by decide) (fun K hK => ?_); refine Kd.R_make_step (Kd.int .i64) _ 3 (by rfl) (N := 16) rfl 22 _ _ rfl Ag rfl rfl Try.underlying22 (.int .i64 0) 8 info3 rfl (by decide) (by omega) 0 (ok := fun _ => True) (okp := fun _ => True) rfl (fun _ hk => hk) trivial (of_decide_eq_true Z3) (Nat.le_trans (Nat.mul_le_mul_right _ (of_decide_eq_true Z3 : Ag.toNat ≤ 35184372088832)) (by omega)) (Below.refl _ _) (Nat.le_refl _) ?_; intro Ar Dl Ak hb hg_ hnew_; clear hg_ hnew_
     (first | rw [← Bk.out] at Ak | (simp only [Int.reduceToNat] at Ak; rw [← Bk.out] at Ak))
     have An := aM (Kd.R_lower (Kd.R_new' (Kd.R_new' Ak (Kd.R_lt Z18)) (Kd.R_lt Z28)) (below_size Z2)); replace Ad := aM (Kd.R_elder' Z18 (Kd.R_base Ak) hb); replace Ao := aM (Kd.R_elder' Z28 (Kd.R_base Ak) hb); replace Ac := bkB Ac hb; replace HB := hbS Z2 hb; clear hb Ak; refine hK.out _ _ trivial (fun hHeld => ?_); clear hK K; refine noR 16 ?_; refine puK 4 6 #[true, true, true, true, true, false] rfl rfl ?_
     exact norm_ Z72 (hCont (Ar, Ap) _ ⟨Z106, Z50, Z51, Z13, Z2⟩)
   rintro ⟨Ar, Ap⟩ Cj ⟨h0_, h1_, h2_, h3_, h4_⟩; have n0_ : Aside0 (Kd.R (Kd.int .i64) 3 Cj w.heap.size (fun k_ => nV k_ Ar ∧ nV k_ Ap) Bm Ab) := ⟨h0_⟩; have n1_ : Aside0 (Kd.R (Kd.int .i64) 3 Cj w.heap.size (fun k_ => nV k_ Bm ∧ nV k_ Ap) Ar Bo) := ⟨h1_⟩; have n2_ : Aside0 (Kd.R (Kd.int .i64) 3 Cj w.heap.size (fun k_ => nV k_ Bm ∧ nV k_ Ar) Ap Bq) := ⟨h2_⟩; have n3_ : Aside0 (Cj.heap[Bd]? = some (.cells #[.int .i64 Ah, .int .i64 Ai, .slice Ba Ae.length Ax] 28 (0, 0))) := ⟨h3_⟩; have n4_ : Aside0 (Below w.heap.size w Cj) := ⟨h4_⟩; clear Ad; clear Ac; clear HB; clear h0_ h1_ h2_ h3_ h4_; have Ad := n0_; have An := n1_; have Ao := n2_; have Ac := n3_; have HB := n4_; clear n0_ n1_ n2_ n3_ n4_; have hHeld := trivial; refine norm_ (a' := ?_) ?_ ?_
   rotate_left
   ·simp only [putAll, Act.put, List.setIfInBounds_toArray, List.set_cons_zero, List.set_cons_succ]
    rfl
   refine puK 5 7 #[true, true, true, true, true, true] rfl rfl ?_; refine done_ Z33 ?_; obtain ⟨B5, Bh, C5⟩ := Kd.R_slice Ad.out; subst C5
   try go_wp2
   go_loopg [21] k (fun kq Dm w' => ∃ (Aj : List Int) (Al : List Int) (Aa : Int), Dm = .int .i64 Aa ∧ Aside0 (impl_Chart_sizes.l0 kq Ab Aj Al (Ab.length : Int) Aa Ah Ai Ae = some (r1, r2)) ∧ Aside0 (kq ≤ k) ∧ Aside0 (Kd.R (Kd.int .i64) 3 w' w.heap.size (fun k_ => nV k_ Ar ∧ nV k_ Ap) (.slice B5 Ab.length Bh) Ab) ∧ Aside0 (Kd.R (Kd.int .i64) 3 w' w.heap.size (fun k_ => nS k_ B5 Ab.length Bh ∧ nV k_ Ap) Ar Aj) ∧ Aside0 (Kd.R (Kd.int .i64) 3 w' w.heap.size (fun k_ => nS k_ B5 Ab.length Bh ∧ nV k_ Ar) Ap Al) ∧ Aside0 (w'.heap[Bd]? = some (.cells #[.int .i64 Ah, .int .i64 Ai, (.slice Ba Ae.length Ax)] 28 (0, 0))) ∧ Aside0 (Below w.heap.size w w'))
   case atStart => exact ⟨(Bo), (Bq), (0), Z7, H', ⟨Nat.le_refl _⟩, ⟨Z18⟩, ⟨Z41⟩, ⟨Z28⟩, ⟨Z13⟩, ⟨Z2⟩⟩
   case round =>
    clear H'; (try clear p2); (try clear c3); (try clear c3b0); (try clear c3b1); (try clear c4); (try clear c4b0); (try clear c4b1); (try clear Bw); (try clear Bx); (try clear Bz); (try clear B0); (try clear B2); (try clear B4); obtain ⟨Aj, Al, Aa, rfl, HA, HK1, Bn, Aq, Au, Ac, HB⟩ := hrel; cases gk with
    | zero => exact absurd HA.out (by simp [impl_Chart_sizes.l0])
    | succ k1 =>
     have H := HA.out; clear HA
     simp only [impl_Chart_sizes.l0] at H
     by_cases Ch : Aa < (Ab.length : Int)
     ·rw [if_pos Ch] at H
      have c15b0 : decide (Aa < (Ab.length : Int)) = true := decide_eq_true Ch; clear Ch
      by_cases Cr : 0 ≤ Aa
      ·rw [if_pos Cr] at H
       have c16b0 : decide (0 ≤ Aa) = true := decide_eq_true Cr; clear Cr
       by_cases Cs : Aa < (Ab.length : Int)
       ·rw [if_pos Cs] at H
        have c17b0 : decide (Aa < (Ab.length : Int)) = true := decide_eq_true Cs; clear Cs
        by_cases Ct : 0 ≤ (rd Ab Aa)
        ·rw [if_pos Ct] at H
         have c18b0 : decide (0 ≤ (rd Ab Aa)) = true := decide_eq_true Ct; clear Ct
         by_cases Cu : (rd Ab Aa) < (Aj.length : Int)
         ·rw [if_pos Cu] at H
          have c19b0 : decide ((rd Ab Aa) < (Aj.length : Int)) = true := decide_eq_true Cu; clear Cu; obtain ⟨Br, Bf⟩ : ∃ y_ : List Int, y_ = (Aj.set ((rd Ab Aa) : Int).toNat (wrap64 ((rd Aj (rd Ab Aa)) + 1))) := ⟨_, rfl⟩
          replace H : (if Aa < (Ae.length : Int) then (if (rd Ab Aa) < (Al.length : Int) then (impl_Chart_sizes.l0 k1 Ab Br (Al.set ((rd Ab Aa) : Int).toNat (rd Ae Aa)) (Ab.length : Int) (wrap64 (Aa + 1)) Ah Ai Ae) else (none)) else (none)) = some (r1, r2) := by first | (rw [Bf]; with_reducible exact H) | (have H2_ := (Option.bind_some _ _).symm.trans H; rw [Bf]; with_reducible exact H2_) | (have H2_ := (Option.bind_some _ _).symm.trans H; with_reducible exact H2_) | with_reducible exact H | (rw [Bf]; exact H) | exact H
          have Ck := Aside0.mk Bf; clear Bf
          by_cases Cv : Aa < (Ae.length : Int)
          ·rw [if_pos Cv] at H
           have c21b0 : decide (Aa < (Ae.length : Int)) = true := decide_eq_true Cv; clear Cv
           by_cases Cw : (rd Ab Aa) < (Al.length : Int)
           ·rw [if_pos Cw] at H
            have c22b0 : decide ((rd Ab Aa) < (Al.length : Int)) = true := decide_eq_true Cw; clear Cw; obtain ⟨B6, Bg⟩ : ∃ y_ : List Int, y_ = (Al.set ((rd Ab Aa) : Int).toNat (rd Ae Aa)) := ⟨_, rfl⟩
            replace H : (impl_Chart_sizes.l0 k1 Ab Br B6 (Ab.length : Int) (wrap64 (Aa + 1)) Ah Ai Ae) = some (r1, r2) := by first | (rw [Bg]; with_reducible exact H) | (have H2_ := (Option.bind_some _ _).symm.trans H; rw [Bg]; with_reducible exact H2_) | (have H2_ := (Option.bind_some _ _).symm.trans H; with_reducible exact H2_) | with_reducible exact H | (rw [Bg]; exact H) | exact H
            have Cl := Aside0.mk Bg; clear Bg; have H' := Aside0.mk H; clear H; have B7 : 0 ≤ (Aa : Int) := of_decide_eq_true Z3; have Ca : Aa < (Ab.length : Int) := of_decide_eq_true Z3; obtain ⟨ad324, e324, Cx⟩ := Kd.at_int (Kd.R_reads' Bn.out).2.2 Aa B7 Ca; cases e324; replace B7 := eq_true B7; replace Ca := eq_true Ca; obtain ⟨Dn, Bi, C6⟩ := Kd.R_slice Aq.out; subst C6; have Cb : 0 ≤ ((rd Ab Aa) : Int) := of_decide_eq_true Z3; have Cc : (rd Ab Aa) < (Aj.length : Int) := of_decide_eq_true Z3; obtain ⟨ad325, e325, Bs⟩ := Kd.at_int (Kd.R_reads' Aq.out).2.2 (rd Ab Aa) Cb Cc; cases e325; replace Cb := eq_true Cb; replace Cc := eq_true Cc; have C7 : 0 ≤ ((rd Ab Aa) : Int) := of_decide_eq_true Z3; have C8 : ((rd Ab Aa) : Int) < ((Aj.length : Int) : Int) := of_decide_eq_true Z3; obtain ⟨Ay, Dp, Cm, Cn, gl20, cl20, HG20⟩ := Kd.R_form Aq.out (by omega)
            (first | cases Cm | (injection Cm with ea_ en_ ec_; (first | subst ea_ | (injection ea_ with ea_; subst ea_)); subst ec_; clear en_))
            have C9 := Aside0.mk Cn; have Dq := Aside0.mk HG20; clear Cn gl20 HG20
            (first | simp only [add_plain] at Bs | skip)
            obtain ⟨Da, Db⟩ := Kd.R_celln 0 Aq.out ((rd Ab Aa) : Int) C7 C8; replace C7 := eq_true C7; replace C8 := eq_true C8; have Cd := Kd.R_putg Aq.out ((rd Ab Aa) : Int) (wrap64 ((rd Aj (rd Ab Aa)) + 1))
            go_wp2_with (first | ((with_reducible refine gate_store (t := 3) (p := 31) rfl ?_); refine store_event (t := 3) (p := 31) (v := ?vo_w26) (w1 := (wr.setCell ⟨Ay, ((rd Ab Aa) : Int).toNat, none⟩ (.int .i64 (wrap64 ((rd Aj (rd Ab Aa)) + 1))))) ?hg ?ho ?hn ?hr ?_; (case ho => rfl); (case hg => rfl); (case hn => rfl); (case hr => first | (go_simp; done) | (go_simp; rfl)); intro Co hw; have hg : wr.grownBy Co (some Ay) := (by rw [hw]; exact Cd.2); have hp_ : Kd.R (Kd.int .i64) 3 Co w.heap.size (fun k_ => some k_ ≠ (.slice (some ad324) Ab.length Bh : Value).ownBlock ∧ nV k_ Ap) (.slice (some ⟨Ay, 0, none⟩) Aj.length Bi) Br := (by rw [hw, Ck.out]; exact Cd.1); clear Cd; replace Bn := aM (Kd.R_after (v := (.slice (some ⟨Ay, 0, none⟩) Aj.length Bi)) (v1 := (.slice (some ⟨Ay, 0, none⟩) Aj.length Bi)) (ok := (fun k_ => nV k_ Ap)) Z112 hg (.inl rfl)); replace Au := aM (Kd.R_after (v := (.slice (some ⟨Ay, 0, none⟩) Aj.length Bi)) (v1 := (.slice (some ⟨Ay, 0, none⟩) Aj.length Bi)) (ok := (fun k_ => some k_ ≠ (.slice (some ad324) Ab.length Bh : Value).ownBlock)) Z59 hg (.inl rfl)); replace Ac := aM (blk_grown (g := Bd) (o := .cells #[.int .i64 Ah, .int .i64 Ai, .slice Ba Ae.length Ax] 28 (0, 0)) Z13 hg (Kd.R_ne Aq.out Ac.out (by decide))); replace Aq := aM (hp_); replace HB := aM ((by rw [hw]; exact below_set (HB.out) C9.out : Below w.heap.size w Co)); clear hg hw hp_; obtain ⟨Cy, Cz, C0⟩ := bz3 Ac; obtain ⟨C1, C3, C4⟩ := fz3 Ac; have Ce : 0 ≤ (Aa : Int) := of_decide_eq_true Z3; have Cf : Aa < (Ae.length : Int) := of_decide_eq_true Z3; obtain ⟨ad327, e327, Az⟩ := Kd.at_int Bv.out Aa Ce Cf; cases e327; replace Az := (HB.out.cell (World.block_lt_of_cell? w _ Az)).trans Az; replace Ce := eq_true Ce; replace Cf := eq_true Cf; have Dc : 0 ≤ ((rd Ab Aa) : Int) := of_decide_eq_true Z3; have Dd : ((rd Ab Aa) : Int) < ((Al.length : Int) : Int) := of_decide_eq_true Z3; obtain ⟨Bj, Bp, Cp, Cq, gl23, cl23, HG23⟩ := Kd.R_form Au.out (by omega); (first | cases Cp | (injection Cp with ea_ en_ ec_; (first | subst ea_ | (injection ea_ with ea_; subst ea_)); subst ec_; clear en_)); have De := Aside0.mk Cq; have Dr := Aside0.mk HG23; clear Cq gl23 HG23; obtain ⟨Df, Dg⟩ := Kd.R_celln 0 Au.out ((rd Ab Aa) : Int) Dc Dd; replace Dc := eq_true Dc; replace Dd := eq_true Dd; obtain ⟨hy28_, hz28_⟩ := Kd.R_celln 0 Au.out ((rd Ab Aa) : Int) (of_decide_eq_true Z3) (of_decide_eq_true Z3); have Cg := Kd.R_putg Au.out ((rd Ab Aa) : Int) (rd Ae Aa)) | ((with_reducible refine gate_store (t := 3) (p := 39) rfl ?_); refine store_event (t := 3) (p := 39) (v := ?vo_w29) (w1 := (Co.setCell ⟨Bj, ((rd Ab Aa) : Int).toNat, none⟩ (.int .i64 (rd Ae Aa)))) ?hg ?ho ?hn ?hr ?_; (case ho => rfl); (case hg => rfl); (case hn => rfl); (case hr => first | (go_simp; done) | (go_simp; rfl)); intro Dh hw; have hg : Co.grownBy Dh (some Bj) := (by rw [hw]; exact Cg.2); have hp_ : Kd.R (Kd.int .i64) 3 Dh w.heap.size (fun k_ => some k_ ≠ (.slice (some ad324) Ab.length Bh : Value).ownBlock ∧ some k_ ≠ (.slice (some ⟨Ay, 0, none⟩) Aj.length Bi : Value).ownBlock) (.slice (some ⟨Bj, 0, none⟩) Al.length Bp) B6 := (by rw [hw, Cl.out]; exact Cg.1); clear Cg; replace Bn := aM (Kd.R_after (v := (.slice (some ⟨Bj, 0, none⟩) Al.length Bp)) (v1 := (.slice (some ⟨Bj, 0, none⟩) Al.length Bp)) (ok := (fun k_ => some k_ ≠ (.slice (some ⟨Ay, 0, none⟩) Aj.length Bi : Value).ownBlock)) Z112 hg (.inl rfl)); replace Aq := aM (Kd.R_after (v := (.slice (some ⟨Bj, 0, none⟩) Al.length Bp)) (v1 := (.slice (some ⟨Bj, 0, none⟩) Al.length Bp)) (ok := (fun k_ => some k_ ≠ (.slice (some ad324) Ab.length Bh : Value).ownBlock)) Z42 hg (.inl rfl)); replace Ac := aM (blk_grown (g := Bd) (o := .cells #[.int .i64 Ah, .int .i64 Ai, .slice (some ad327) Ae.length Ax] 28 (0, 0)) Z13 hg (Kd.R_ne Au.out Ac.out (by decide))); replace Au := aM (hp_); replace HB := aM ((by rw [hw]; exact below_set (HB.out) De.out : Below w.heap.size w Dh)); clear hg hw hp_))
            go_roundg k1
            case measure => have := HK1.out; omega
            case rel => exact ⟨(Br), (B6), (wrap64 (Aa + 1)), Z7, H', ⟨Z66⟩, ⟨by (with_reducible repeat (first | apply Kd.R_alloc | apply Kd.R_drewN | apply Kd.R_drew)); exact Bn.out⟩, ⟨Z42⟩, ⟨Z59⟩, ⟨Z13⟩, ⟨Z2⟩⟩
           ·rw [if_neg Cw] at H
            exact absurd H (by simp)
          ·rw [if_neg Cv] at H
           exact absurd H (by simp)
         ·rw [if_neg Cu] at H
          exact absurd H (by simp)
        ·rw [if_neg Ct] at H
         exact absurd H (by simp)
       ·rw [if_neg Cs] at H
        exact absurd H (by simp)
      ·rw [if_neg Cr] at H
       exact absurd H (by simp)
     ·rw [if_neg Ch] at H
      have c15b0 : decide (Aa < (Ab.length : Int)) = false := decide_eq_false Ch; clear Ch
      simp only [Option.some.injEq, Prod.mk.injEq] at H
      obtain ⟨rfl, rfl⟩ := H
      go_wp2
      go_ret2
      exact ⟨_, _, Z6, Z121, Z122, Z2⟩
  ·rw [if_neg c4] at H
   exact absurd H (by simp)
 ·rw [if_neg c3] at H
  exact absurd H (by simp)
def impl_Chart_sizesOf.l0 : Nat → Int → List Int → List Int → List Int → Int → Int → Option (List Int)
 | 0, _, _, _, _, _, _ => none
 | k + 1, x1, x5, x6, x7, x17, x18 => if x18 < x17 then (if 0 ≤ x18 then (if x18 < (x6.length : Int) then (if x18 < (x7.length : Int) then (if (rd x7 x18) = x1 then (if x5.length < 17592186044416 then (impl_Chart_sizesOf.l0 k x1 (x5 ++ [rd x6 x18]) x6 x7 x17 (wrap64 (x18 + 1))) else (none)) else (impl_Chart_sizesOf.l0 k x1 x5 x6 x7 x17 (wrap64 (x18 + 1)))) else (none)) else (none)) else (none)) else (some x5)
def impl_Chart_sizesOf.f (k : Nat) (a0_0 : Int) (a0_1 : Int) (l0_2 : List Int) (a1 : Int) : Option (List Int) := (impl_Chart_sizes.f k a0_0 a0_1 l0_2).bind fun bt333 => (impl_Chart_sizesOf.l0 k a1 (([] : List Int)) bt333.1 bt333.2 (bt333.1.length : Int) 0)
theorem impl_Chart_sizesOf.calls (k : Nat) (Ah : Int) (Ai : Int) (Aw : Option Addr) (Ax : Nat) (Af : List Int) (a1 : Int) (r : List Int) (w : World) (Bb : Kd.C (Kd.int .i64) w Aw Af.length Af) (Bc : Af.length ≤ Ax) (h : impl_Chart_sizesOf.f k Ah Ai Af a1 = some r) :
  Calls Try.prog 54 #[.agg #[.int .i64 Ah, .int .i64 Ai, .slice Aw Af.length Ax], .int .i64 a1] w fun e w' => ∃ v0_ : Value, e = .returned (v0_) ∧ Kd.R (Kd.int .i64) 3 w' w.heap.size (fun _ => True) v0_ r ∧ Below w.heap.size w w' := by
 have hu28 := Try.underlying28; have Br := Aside0.mk Bb; have Bs := Aside0.mk Bc; clear Bb Bc; have HB := aM (Below.refl w.heap.size w); have H : ((impl_Chart_sizes.f k Ah Ai Af).bind fun Ag => (impl_Chart_sizesOf.l0 k a1 (([] : List Int)) Ag.1 Ag.2 (Ag.1.length : Int) 0)) = some r := h; clear h; obtain ⟨Bh, Ak⟩ : ∃ y_ : List Int, y_ = (([] : List Int)) := ⟨_, rfl⟩
 replace H : ((impl_Chart_sizes.f k Ah Ai Af).bind fun Ag => (impl_Chart_sizesOf.l0 k a1 Bh Ag.1 Ag.2 (Ag.1.length : Int) 0)) = some r := by first | (rw [Ak]; with_reducible exact H) | (have H2_ := (Option.bind_some _ _).symm.trans H; rw [Ak]; with_reducible exact H2_) | (have H2_ := (Option.bind_some _ _).symm.trans H; with_reducible exact H2_) | with_reducible exact H | (rw [Ak]; exact H) | exact H
 have Bd := Aside0.mk Ak; clear Ak; replace H := Option.bind_eq_some_iff.mp H; obtain ⟨⟨Ab, Ae⟩, Ce, H⟩ := H; replace H : (impl_Chart_sizesOf.l0 k a1 Bh Ab Ae (Ab.length : Int) 0) = some r := H; have A3 := Aside0.mk Ce; clear Ce; have H' := Aside0.mk H; clear H
 go_enter Try.func54, Try.ntmps54
 go_wp2_with (first | ((with_reducible refine gate_dst (N := 2) rfl ?_); refine bxE 2 #[.int .i64 Ah, .int .i64 Ai, .slice Aw Af.length Ax] 28 ?_; intro Bf hg w4 hbox hb; have Ac := aM (hbox); have Cf := gwS hg Z0; have Ad := gwS hg Z0; replace HB := hbS Z0 hb; clear hb hbox hg) | ((with_reducible refine gate_dst (N := 10) rfl ?_); refine Kd.R_lit (Kd.int .i64) _ 3 ?hg (N := 10) ?hd (xs := ([] : List Int)) (inner := []) (ok := fun _ => True) (okp := fun _ => True) ?hr ?hp (fun _ hk => hk) trivial (Below.refl _ _) (Nat.le_refl _) (by simp) ?_; (case hd => rfl); (case hg => rfl); (case hr => first | (go_simp; done) | (go_simp; rfl)); (case hp => exact (Reps.none _ _)); intro Cg w5 Bt hb hg_ hnew_; clear hg_ hnew_; (first | rw [← Bd.out] at Bt | (simp only [Int.reduceToNat] at Bt; rw [← Bd.out] at Bt)); have Al := aM (Kd.R_lower Bt (below_size Z11)); replace Ac := bkB Ac hb; replace HB := hbS Z11 hb; clear hb Bt; obtain ⟨Bi, Bj, Bk⟩ := bz3 Ac; obtain ⟨Bl, Bm, Bn⟩ := fz3 Ac) | ((with_reducible refine gate_callee (f := 48) rfl ?_); refine glE (some 13) Try.func48 #[.agg #[.int .i64 Ah, .int .i64 Ai, .slice Aw Af.length Ax]] ?_; (with_reducible refine (impl_Chart_sizes.calls k Ah Ai _ _ Af Ab Ae _ ?side1 ?side2 A3.out).mono ?_); (case side1 => exact (by repeat (first | exact (Kd.C_below Br.out HB.out) | (with_reducible refine Kd.C_alloc ?_ _) | (with_reducible refine Kd.C_drewN ?_ _) | (with_reducible refine Kd.C_drew ?_)))); (case side2 => exact Bs.out); rintro e w8 ⟨Ch, Bo, rfl, B7, Ca, hb⟩; refine ⟨_, rfl, ?_⟩; have Bg := aM (Kd.R_lower (Kd.R_new' B7 (Kd.R_lt Z34)) (below_size Z11)); have Bu := aM (Kd.R_lower (Kd.R_new' Ca (Kd.R_lt Z34)) (below_size Z11)); replace Al := aM (Kd.R_mono (Kd.R_told (Kd.R_told (Kd.R_old Z34 hb) (Kd.R_base B7)) (Kd.R_base Ca)) (fun _ h_ => h_.1)); replace Ac := bkB Ac hb; replace HB := hbS Z11 hb; (try clear hb); (try clear B7); (try clear Ca); obtain ⟨Cb, Bv, Ci⟩ := Kd.R_slice Bg.out; subst Ci))
 go_loopg [5, 18] k (fun kq v5 Cj w' => ∃ (An : List Int) (Aa : Int), Cj = .int .i64 Aa ∧ Aside0 (impl_Chart_sizesOf.l0 kq a1 An Ab Ae (Ab.length : Int) Aa = some r) ∧ Aside0 (kq ≤ k) ∧ Aside0 (Kd.R (Kd.int .i64) 3 w' w.heap.size (fun k_ => nS k_ Cb Ab.length Bv ∧ nV k_ Bo) v5 An) ∧ Aside0 (Kd.R (Kd.int .i64) 3 w' w.heap.size (fun k_ => nV k_ v5 ∧ nV k_ Bo) (.slice Cb Ab.length Bv) Ab) ∧ Aside0 (Kd.R (Kd.int .i64) 3 w' w.heap.size (fun k_ => nV k_ v5 ∧ nS k_ Cb Ab.length Bv) Bo Ae) ∧ Aside0 (w'.heap[Bf]? = some (.cells #[.int .i64 Ah, .int .i64 Ai, (.slice Aw Af.length Ax)] 28 (0, 0))) ∧ Aside0 (Below w.heap.size w w'))
 case atStart => exact ⟨(Bh), (0), Z7, H', ⟨Nat.le_refl _⟩, ⟨by (with_reducible repeat (first | apply Kd.R_alloc | apply Kd.R_drewN | apply Kd.R_drew)); exact Kd.R_mono Al.out (fun _ hk => ⟨hk.1.2, hk.2⟩)⟩, ⟨Z67⟩, ⟨by (with_reducible repeat (first | apply Kd.R_alloc | apply Kd.R_drewN | apply Kd.R_drew)); exact Kd.R_mono Bu.out (fun _ hk => ⟨hk.2, hk.1⟩)⟩, ⟨Z13⟩, ⟨Z11⟩⟩
 case round =>
  clear H'; (try clear p2); (try clear c4); (try clear c5); (try clear Bi); (try clear Bj); (try clear Bk); (try clear Bl); (try clear Bm); (try clear Bn); obtain ⟨An, Aa, rfl, HA, HK1, Ay, Ao, Aj, Ac, HB⟩ := hrel; cases gk with
  | zero => exact absurd HA.out (by simp [impl_Chart_sizesOf.l0])
  | succ k1 =>
   have H := HA.out; clear HA
   simp only [impl_Chart_sizesOf.l0] at H
   by_cases Bq : Aa < (Ab.length : Int)
   ·rw [if_pos Bq] at H
    have c10b0 : decide (Aa < (Ab.length : Int)) = true := decide_eq_true Bq; clear Bq
    by_cases B2 : 0 ≤ Aa
    ·rw [if_pos B2] at H
     have c11b0 : decide (0 ≤ Aa) = true := decide_eq_true B2; clear B2
     by_cases B4 : Aa < (Ab.length : Int)
     ·rw [if_pos B4] at H
      have c12b0 : decide (Aa < (Ab.length : Int)) = true := decide_eq_true B4; clear B4
      by_cases B5 : Aa < (Ae.length : Int)
      ·rw [if_pos B5] at H
       have c13b0 : decide (Aa < (Ae.length : Int)) = true := decide_eq_true B5; clear B5
       by_cases Bp : (rd Ae Aa) = a1
       ·rw [if_pos Bp] at H
        have c14b0 : ((rd Ae Aa) == a1) = true := beq_iff_eq.mpr Bp; have c14b1 : ((rd Ae Aa) != a1) = false := bne_eq_false_iff_eq.mpr Bp; clear Bp
        by_cases B6 : An.length < 17592186044416
        ·rw [if_pos B6] at H
         have LMc15 := Aside0.mk B6; clear B6; obtain ⟨Bw, Am⟩ : ∃ y_ : List Int, y_ = (An ++ [rd Ab Aa]) := ⟨_, rfl⟩
         replace H : (impl_Chart_sizesOf.l0 k1 a1 Bw Ab Ae (Ab.length : Int) (wrap64 (Aa + 1))) = some r := by first | (rw [Am]; with_reducible exact H) | (have H2_ := (Option.bind_some _ _).symm.trans H; rw [Am]; with_reducible exact H2_) | (have H2_ := (Option.bind_some _ _).symm.trans H; with_reducible exact H2_) | with_reducible exact H | (rw [Am]; exact H) | exact H
         have Bx := Aside0.mk Am; clear Am; have H' := Aside0.mk H; clear H; have Ap : 0 ≤ (Aa : Int) := of_decide_eq_true Z3; have Aq : Aa < (Ab.length : Int) := of_decide_eq_true Z3; obtain ⟨ad339, e339, Az⟩ := Kd.at_int (Kd.R_reads' Ao.out).2.2 Aa Ap Aq; cases e339; replace Ap := eq_true Ap; replace Aq := eq_true Aq; obtain ⟨Ck, Bz, Cc⟩ := Kd.R_slice Aj.out; subst Cc; have Ar : 0 ≤ (Aa : Int) := of_decide_eq_true Z3; have Au : Aa < (Ae.length : Int) := of_decide_eq_true Z3; obtain ⟨ad340, e340, Ba⟩ := Kd.at_int (Kd.R_reads' Aj.out).2.2 Aa Ar Au; cases e340; replace Ar := eq_true Ar; replace Au := eq_true Au
         go_wp2_with (first | ((with_reducible refine gate_builtin (b := .append) (xs := #[.tmp 29, .tmp 31]) rfl ?_); at_builtin; refine Kd.R_append (Kd.int .i64) (w0 := w) w.heap.size rfl (.tmp 29) (.tmp 31) 22 3 (.int .i64 0) 8 rfl Try.underlying22 info3 rfl (by decide) (by omega) u5 An (rd Ab Aa) [.int .i64 (rd Ab Aa)] (fun k_ => some k_ ≠ (.slice (some ad339) Ab.length Bv : Value).ownBlock ∧ some k_ ≠ (.slice (some ad340) Ae.length Bz : Value).ownBlock) (fun _ => False) rfl rfl ?aP (fun _ hk => hk.elim) ?aF ?aO ?aB ?aS ?aL ?_; (case aP => exact rfl); (case aB => exact Z11); (case aF => exact (fun k_ hk => ⟨Kd.fresh' (Kd.R_lt Z28) k_ hk, Kd.fresh' (Kd.R_lt Z29) k_ hk⟩)); (case aO => exact Z127); (case aS => exact (below_size Z11)); (case aL => have := LMc15.out; omega); intro Cl Co ho hb hg hat; rw [← Bx.out] at ho; replace Ao := aM (Kd.R_after (ok := (fun k_ => some k_ ≠ (.slice (some ad340) Ae.length Bz : Value).ownBlock)) Z113 hg hat); replace Aj := aM (Kd.R_after (ok := (fun k_ => some k_ ≠ (.slice (some ad339) Ab.length Bv : Value).ownBlock)) Z114 hg hat); replace Ac := aM (blk_grown (g := Bf) (o := .cells #[.int .i64 Ah, .int .i64 Ai, .slice Aw Af.length Ax] 28 (0, 0)) Z13 hg (Kd.R_ne Ay.out Ac.out (by decide))); replace HB := aM (hb); have B0 := aM (ho); clear Ay; clear ho hb hg hat))
         go_roundg k1
         case measure => have := HK1.out; omega
         case rel => exact ⟨(Bw), (wrap64 (Aa + 1)), Z7, H', ⟨Z66⟩, ⟨by (with_reducible repeat (first | apply Kd.R_alloc | apply Kd.R_drewN | apply Kd.R_drew)); exact B0.out⟩, ⟨Z113⟩, ⟨Z114⟩, ⟨Z13⟩, ⟨Z11⟩⟩
        ·rw [if_neg B6] at H
         exact absurd H (by simp)
       ·rw [if_neg Bp] at H
        have c14b0 : ((rd Ae Aa) == a1) = false := beq_eq_false_iff_ne.mpr Bp; have c14b1 : ((rd Ae Aa) != a1) = true := bne_iff_ne.mpr Bp; have H' := Aside0.mk H; clear H; have Ap : 0 ≤ (Aa : Int) := of_decide_eq_true Z3; have Aq : Aa < (Ab.length : Int) := of_decide_eq_true Z3; obtain ⟨ad339, e339, Az⟩ := Kd.at_int (Kd.R_reads' Ao.out).2.2 Aa Ap Aq; cases e339; replace Ap := eq_true Ap; replace Aq := eq_true Aq; obtain ⟨Cm, Cn, Cd⟩ := Kd.R_slice Aj.out; subst Cd; have Ar : 0 ≤ (Aa : Int) := of_decide_eq_true Z3; have Au : Aa < (Ae.length : Int) := of_decide_eq_true Z3; obtain ⟨ad340, e340, Ba⟩ := Kd.at_int (Kd.R_reads' Aj.out).2.2 Aa Ar Au; cases e340; replace Ar := eq_true Ar; replace Au := eq_true Au
        go_wp2
        go_roundg k1
        case measure => have := HK1.out; omega
        case rel => exact ⟨(An), (wrap64 (Aa + 1)), Z7, H', ⟨Z66⟩, ⟨Z127⟩, ⟨Z28⟩, ⟨Z29⟩, ⟨Z13⟩, ⟨Z11⟩⟩
      ·rw [if_neg B5] at H
       exact absurd H (by simp)
     ·rw [if_neg B4] at H
      exact absurd H (by simp)
    ·rw [if_neg B2] at H
     exact absurd H (by simp)
   ·rw [if_neg Bq] at H
    have c10b0 : decide (Aa < (Ab.length : Int)) = false := decide_eq_false Bq; clear Bq; obtain rfl := Option.some.inj H
    go_wp2
    go_ret
    exact ⟨_, Z6, by (with_reducible repeat (first | apply Kd.R_alloc | apply Kd.R_drewN | apply Kd.R_drew)); exact Kd.R_mono Ay.out (fun _ hk => trivial), Z11⟩
def slices_Clone_int.f (l0 : List (Int)) : Option (List (Int)) := if l0.length < 17592186044416 then some l0 else none
theorem slices_Clone_int.calls (A0 : Option Addr) (c0 : Nat) (l0 : List (Int)) (r : List (Int)) (w : World) (Ab : Kd.C (Kd.int .i64) w A0 l0.length l0) (Ae : l0.length ≤ c0) (h : slices_Clone_int.f l0 = some r) :
  Calls Try.prog 58 #[.slice A0 l0.length c0] w fun e w' => ∃ v0_ : Value, e = .returned (v0_) ∧ Kd.R (Kd.int .i64) 3 w' w.heap.size (fun _ => True) v0_ r ∧ Below w.heap.size w w' := by
 unfold slices_Clone_int.f at h
 by_cases hq : l0.length < 17592186044416
 case neg => rw [if_neg hq] at h; cases h
 rw [if_pos hq] at h; obtain rfl := Option.some.inj h; have HQ := Aside0.mk hq; clear h hq; cases A0 with
 | none =>
  have hn : l0 = [] := by
   cases l0 with
   | nil => rfl
   | cons x t => exact absurd (Ab.2.2 (by simp)) (by rintro ⟨ad, e, _⟩; cases e)
  subst hn
  have Ah : ∀ (w : World) (a : Option Addr) (n c n' c' : Nat), (binOp .eql 22 (.slice a n c) (.slice none n' c')).run Try.prog w = .ok (.bool a.isNone) w := fun w a n c n' c' => Lib.run_eql_slice_nil w _ _ a n c n' c' Try.underlying22
  clear Ab Ae
  go_enter Try.func58, Try.ntmps58
  go_wp2
  go_ret
  exact ⟨_, rfl, Kd.R_nil _ _ _ _ _, Below.refl _ _⟩
 | some ad =>
  have Ah : ∀ (w : World) (a : Option Addr) (n c n' c' : Nat), (binOp .eql 22 (.slice a n c) (.slice none n' c')).run Try.prog w = .ok (.bool a.isNone) w := fun w a n c n' c' => Lib.run_eql_slice_nil w _ _ a n c n' c' Try.underlying22
  have Ai := Aside0.mk Ab; clear Ab Ae; have HB := aM (Below.refl w.heap.size w); obtain ⟨y0, Ac⟩ : ∃ y_ : List (Int), y_ = [] := ⟨_, rfl⟩; have LMc := aM (show y0.length + l0.length < 17592186044416 by rw [Ac]; simpa using HQ.out); obtain ⟨y1, Ad⟩ : ∃ y_ : List (Int), y_ = (y0 ++ l0) := ⟨_, rfl⟩
  have e1 : y1 = l0 := by rw [Ad, Ac]; rfl
  have Af := Aside0.mk Ac; have Aj := Aside0.mk Ad; have E1 := Aside0.mk e1; clear Ac Ad e1
  go_enter Try.func58, Try.ntmps58
  go_wp2_with (first | ((with_reducible refine gate_dst (N := 5) rfl ?_); refine Kd.R_lit (Kd.int .i64) _ 3 ?hg (N := 5) ?hd (xs := ([] : List (Int))) (inner := []) (ok := fun _ => True) (okp := fun _ => True) ?hr ?hp (fun _ hk => hk) trivial (Below.refl _ _) (Nat.le_refl _) (by simp) ?_; (case hd => rfl); (case hg => rfl); (case hr => first | (go_simp; done) | (go_simp; rfl)); (case hp => exact (Reps.none _ _)); intro v5 w3 Aa hb hg_ hnew_; clear hg_ hnew_; (first | rw [← Af.out] at Aa | (simp only [Int.reduceToNat] at Aa; rw [← Af.out] at Aa)); have Ag := aM (Kd.R_lower Aa (below_size Z0)); replace HB := hbS Z0 hb; clear hb Aa) | ((with_reducible refine gate_builtin (b := .append) (xs := #[.tmp 5, .tmp 6]) rfl ?_); at_builtin; refine Kd.R_append_rows (Kd.int .i64) (w0 := w) w.heap.size rfl (.tmp 5) (.tmp 6) 22 3 (.int .i64 0) 8 rfl Try.underlying22 info3 rfl (by decide) (by omega) v5 y0 l0 _ _ _ (fun _ => True) (fun _ => False) rfl rfl ?aO ?aR (fun _ _ h => h) (fun _ h => h.elim) ?aF ?aB ?aS ?aL ?_; (case aR => repeat (first | exact (Kd.C_below Ai.out HB.out) | (with_reducible refine Kd.C_alloc ?_ _) | (with_reducible refine Kd.C_drewN ?_ _) | (with_reducible refine Kd.C_drew ?_))); (case aB => exact Z0); (case aF => exact (fun _ _ => trivial)); (case aO => exact Z21); (case aS => exact (below_size Z0)); (case aL => have := LMc.out; omega); intro v7 w5 ho hb hg hat; rw [← Aj.out] at ho; replace HB := aM (hb); have Ak := aM (ho); clear Ag; clear ho hb hg hat))
  go_ret
  exact ⟨_, Z139, by rw [← E1.out]; (with_reducible repeat (first | apply Kd.R_alloc | apply Kd.R_drewN | apply Kd.R_drew)); exact Ak.out, Z0⟩
def impl_isColor.f (a0 : Int) : Option (Bool) := (impl_in.f a0 0 5).bind fun t344 => (some t344)
theorem impl_isColor.calls (a0 : Int) (r : Bool) (w : World) (h : impl_isColor.f a0 = some r) :
  Calls Try.prog 53 #[.int .i64 a0] w fun e w' => e = .returned (.bool r) ∧ Drawn0 w w' := by
 have H : ((impl_in.f a0 0 5).bind fun Aa => (some Aa)) = some r := h; clear h; replace H := Option.bind_eq_some_iff.mp H; obtain ⟨Aa, Ab, H⟩ := H; replace H : (some Aa) = some r := H; have A2 := Aside0.mk Ab; clear Ab; obtain rfl := Option.some.inj H
 go_enter Try.func53, Try.ntmps53
 go_wp2_with (first | ((with_reducible refine gate_callee (f := 59) rfl ?_); refine glE (some 4) Try.func59 #[.int .i64 a0, .int .i64 0, .int .i64 5] ?_; (with_reducible refine (impl_in.calls a0 0 5 Aa _ A2.out).mono ?_); rintro e w' ⟨rfl, ⟨nd, rfl⟩⟩; refine ⟨_, rfl, ?_⟩))
 go_ret
 exact ⟨Z7, Z23⟩
def impl_isSide.f (a0 : Int) : Option (Bool) := (impl_in.f a0 1 8).bind fun t345 => (some t345)
theorem impl_isSide.calls (a0 : Int) (r : Bool) (w : World) (h : impl_isSide.f a0 = some r) :
  Calls Try.prog 77 #[.int .i64 a0] w fun e w' => e = .returned (.bool r) ∧ Drawn0 w w' := by
 have H : ((impl_in.f a0 1 8).bind fun Aa => (some Aa)) = some r := h; clear h; replace H := Option.bind_eq_some_iff.mp H; obtain ⟨Aa, Ab, H⟩ := H; replace H : (some Aa) = some r := H; have A2 := Aside0.mk Ab; clear Ab; obtain rfl := Option.some.inj H
 go_enter Try.func77, Try.ntmps77
 go_wp2_with (first | ((with_reducible refine gate_callee (f := 59) rfl ?_); refine glE (some 4) Try.func59 #[.int .i64 a0, .int .i64 1, .int .i64 8] ?_; (with_reducible refine (impl_in.calls a0 1 8 Aa _ A2.out).mono ?_); rintro e w' ⟨rfl, ⟨nd, rfl⟩⟩; refine ⟨_, rfl, ?_⟩))
 go_ret
 exact ⟨Z7, Z23⟩
set_option maxHeartbeats 4000000 in
theorem IndexFunc_int (p : Int → Bool) (g : Nat) (lb : Array Value) (A : Option Addr) (c : Nat) (xs : List Int) (w : World)
  (eg : ∀ args w, (callFunc g args).run Try.prog w = .ok (.enter g args) w) (hr : Kd.C (Kd.int .i64) w A xs.length xs)
  (hp : ∀ (W : World) (x : Int), Below w.heap.size w W → Calls Try.prog g (#[.int .i64 x] ++ lb) W fun e w' => e = .returned (.bool (p x)) ∧ Below W.heap.size W w') :
  Calls Try.prog 107 #[.slice A xs.length c, .func (.func g) #[] lb] w fun e w' => e = .returned (.int .i64 (findI p xs)) ∧ Below w.heap.size w w' := by
 have hlen := Aside0.mk hr.2.1; have HR := Aside0.mk hr; have HP := Aside0.mk hp; clear hr hp
 go_enter Try.func107, Try.ntmps107
 go_wp2
 go_loopg [5, 8] xs.length (fun gg _ s8 wr => ∃ x : Int, s8 = .int .i64 x ∧ Aside0 (0 ≤ x ∧ x ≤ (xs.length : Int) ∧ (xs.length : Int) - x ≤ gg) ∧ Aside0 (Below w.heap.size w wr) ∧ Aside0 (∀ j : Nat, (j : Int) < x → p (xs.getD j 0) = false))
 case atStart => exact ⟨0, rfl, ⟨by omega, by omega, by omega⟩, ⟨Below.refl _ _⟩, ⟨fun j hj => absurd hj (by omega)⟩⟩
 case round =>
  obtain ⟨x, rfl, HX, BW, HA⟩ := hrel
  by_cases hlt : x < (xs.length : Int)
  ·have c0 : decide (x < (xs.length : Int)) = true := decide_eq_true hlt
   obtain ⟨ad, e0, Aa⟩ := Kd.at_int (Kd.C_below HR.out BW.out) x HX.out.1 hlt; cases e0; have c1 : decide (0 ≤ x) = true := decide_eq_true HX.out.1; have p0 := eq_true HX.out.1; have p1 := eq_true hlt; have HL := Aside0.mk hlt; clear hlt; have hcall := HP.out _ (rd xs x) BW.out; have hget : Aside0 (xs.getD x.toNat 0 = (rd xs x)) := ⟨rfl⟩; cases hq : p (rd xs x) with
   | true =>
    rw [hq] at hcall; have HQ := Aside0.mk hq; have HC := Aside0.mk hcall; clear hq hcall
    go_wp2_with fail
    refine HC.out.mono ?_; rintro e w' ⟨rfl, hb'⟩; have HB := aM (below_step BW.out hb'); clear hb'
    go_wp2
    go_ret
    refine ⟨?_, HB.out⟩; rw [findI_hit p 0 xs x.toNat (by have := HX.out; have := HL.out; omega) (fun j hj => HA.out j Z132) (by rw [hget.out]; exact HQ.out)]; rw [Int.toNat_of_nonneg HX.out.1]
    rfl
   | false =>
    rw [hq] at hcall; have HQ := Aside0.mk hq; have HC := Aside0.mk hcall; clear hq hcall
    go_wp2_with fail
    refine HC.out.mono ?_; rintro e w' ⟨rfl, hb'⟩; have HB := aM (below_step BW.out hb'); clear hb'
    go_wp2
    have hw1 : wrap64 (x + 1) = x + 1 := by have := HX.out; have := HL.out; have := hlen.out; unfold wrap64; omega
    go_roundg (xs.length - (x.toNat + 1))
    case measure => have := HX.out; have := HL.out; omega
    case rel =>
     refine ⟨x + 1, by first | rfl | rw [hw1] | simp [hw1], ⟨Z132, by have := HL.out; omega, by have := HX.out; have := HL.out; omega⟩, HB, ⟨fun j hj => ?_⟩⟩
     by_cases e : (j : Int) < x
     ·exact HA.out j e
     ·have hj' : j = x.toNat := by have := HX.out; omega
      subst hj'; rw [hget.out]
      exact HQ.out
  ·have c0 : decide (x < (xs.length : Int)) = false := decide_eq_false hlt
   have HL := Aside0.mk hlt; clear hlt
   go_wp2
   go_ret
   refine ⟨?_, BW.out⟩; rw [findI_miss p 0 xs (fun j hj => HA.out j (by have := HL.out; omega))]
   rfl
set_option maxHeartbeats 4000000 in
theorem ContainsFunc_int (p : Int → Bool) (g : Nat) (lb : Array Value) (A : Option Addr) (c : Nat) (xs : List Int) (w : World)
  (eg : ∀ args w, (callFunc g args).run Try.prog w = .ok (.enter g args) w) (hr : Kd.C (Kd.int .i64) w A xs.length xs)
  (hp : ∀ (W : World) (x : Int), Below w.heap.size w W → Calls Try.prog g (#[.int .i64 x] ++ lb) W fun e w' => e = .returned (.bool (p x)) ∧ Below W.heap.size W w') :
  Calls Try.prog 93 #[.slice A xs.length c, .func (.func g) #[] lb] w fun e w' => e = .returned (.bool (xs.any p)) ∧ Below w.heap.size w w' := by
 have HC := aM (IndexFunc_int p g lb A c xs w eg hr hp); clear hr hp eg; rw [← findI_any]
 go_enter Try.func93, Try.ntmps93
 go_wp2_with fail
 refine HC.out.mono ?_; rintro e w' ⟨rfl, hb'⟩
 go_wp2
 go_ret
 exact ⟨Z139, hb'⟩
set_option maxHeartbeats 4000000 in
theorem areAll_int_1 (p : Int → Bool) (g : Nat) (lb : Array Value) (b : Nat) (x : Int) (W : World)
  (eg : ∀ args w, (callFunc g args).run Try.prog w = .ok (.enter g args) w) (hc : W.cell? ⟨b, 0, none⟩ = some (.func (.func g) #[] lb))
  (hp : ∀ W1, Below W.heap.size W W1 → Calls Try.prog g (#[.int .i64 x] ++ lb) W1 fun e w' => e = .returned (.bool (p x)) ∧ Below W1.heap.size W1 w') (hb : b < W.heap.size) :
  Calls Try.prog 94 #[.int .i64 x, .pointer (some ⟨b, 0, none⟩)] W fun e w' => e = .returned (.bool (!p x)) ∧ Below W.heap.size W w' := by
 have HP := Aside0.mk hp; clear hp
 go_enter Try.func94, Try.ntmps94
 go_wp2_with fail
 refine (HP.out _ (Below.refl _ _)).mono ?_; rintro e w' ⟨rfl, hb'⟩
 go_wp2
 go_ret
 exact ⟨Z139, hb'⟩
set_option maxHeartbeats 4000000 in
theorem areAll_int (p : Int → Bool) (g : Nat) (lb : Array Value) (A : Option Addr) (c : Nat) (xs : List Int) (w : World)
  (eg : ∀ args w, (callFunc g args).run Try.prog w = .ok (.enter g args) w) (hr : Kd.C (Kd.int .i64) w A xs.length xs)
  (hp : ∀ (W : World) (x : Int), Below w.heap.size w W → Calls Try.prog g (#[.int .i64 x] ++ lb) W fun e w' => e = .returned (.bool (p x)) ∧ Below W.heap.size W w') :
  Calls Try.prog 78 #[.slice A xs.length c, .func (.func g) #[] lb] w fun e w' => e = .returned (.bool (xs.all p)) ∧ Below w.heap.size w w' := by
 have hmf : ∀ (fn : Fn) (first cap : Array Value) (w : World), (Instr.makeFunc fn first cap).run Try.prog w = .ok (.func fn first cap) w := fun _ _ _ _ => rfl
 have hB1 : Below w.heap.size w (w.alloc (.cells #[.func (.func g) #[] lb] 64)) := below_alloc (Below.refl _ _) _
 have Aa : (w.alloc (.cells #[.func (.func g) #[] lb] 64)).cell? ⟨w.heap.size, 0, none⟩ = some (.func (.func g) #[] lb) := by simp
 have hsz : w.heap.size < (w.alloc (.cells #[.func (.func g) #[] lb] 64)).heap.size := by simp
 have HC := aM (ContainsFunc_int (fun x => !p x) 94 #[.pointer (some ⟨w.heap.size, 0, none⟩)] A c xs (w.alloc (.cells #[.func (.func g) #[] lb] 64)) (enters_of Try.func94 Z33 rfl) (Kd.C_below hr hB1)
  (fun W x hW => areAll_int_1 p g lb w.heap.size x W eg ((hW.cell (p := ⟨w.heap.size, 0, none⟩) hsz).trans Aa) (fun W1 h1 => hp W1 x ((hB1.trans (hW.mono hB1.size)).trans (h1.mono (Nat.le_trans hB1.size hW.size)))) (Nat.lt_of_lt_of_le hsz hW.size)))
 have HB := Aside0.mk hB1; rw [← any_not]; clear hB1 Aa hsz hp hr eg
 go_enter Try.func78, Try.ntmps78
 go_wp2_with fail
 refine HC.out.mono ?_; rintro e w' ⟨rfl, hb'⟩
 go_wp2
 go_ret
 exact ⟨Z139, below_step HB.out hb'⟩
theorem impl_isColor.tot : ∀ x : Int, impl_isColor.f x = some ((fun x : Int => rng x 0 5) x) := fun x => by unfold impl_isColor.f; rw [impl_in.eq]; rfl
def areAll_impl_isColor.f (l0 : List Int) : Option Bool := some (l0.all (fun x : Int => rng x 0 5))
theorem areAll_impl_isColor.calls (A0 : Option Addr) (c0 : Nat) (l0 : List Int) (r : Bool) (w : World) (Aa : Kd.C (Kd.int .i64) w A0 l0.length l0) (Ac : l0.length ≤ c0) (h : areAll_impl_isColor.f l0 = some r) :
  Calls Try.prog 78 #[.slice A0 l0.length c0, .func (.func 53) #[] #[]] w fun e w' => e = .returned (.bool r) ∧ Below w.heap.size w w' := by
 have Ab := Option.some.inj h; subst Ab
 exact areAll_int (fun x : Int => rng x 0 5) 53 #[] A0 c0 l0 w (enters_of Try.func53 Z33 rfl) Aa (fun W x _ => (impl_isColor.calls x _ W (impl_isColor.tot x)).mono fun e w' ⟨he, hd⟩ => ⟨he, by first | exact hd | exact hd.below⟩)
def impl_IsChart.f (a0_0 : Int) (a0_1 : Int) (l0_2 : List Int) : Option (Bool) := (impl_isSide.f a0_0).bind fun t347 => (if t347 = true then ((impl_isSide.f a0_1).bind fun t348 => (if t348 = true then (if (l0_2.length : Int) = (wrap64 (a0_0 * a0_1)) then ((areAll_impl_isColor.f l0_2).bind fun t349 => (some t349)) else (some false)) else (some false))) else (some false))
theorem impl_IsChart.calls (Aa : Int) (Ac : Int) (Ah : Option Addr) (Ai : Nat) (Ab : List Int) (r : Bool) (w : World) (Am : Kd.C (Kd.int .i64) w Ah Ab.length Ab) (An : Ab.length ≤ Ai) (h : impl_IsChart.f Aa Ac Ab = some r) :
  Calls Try.prog 45 #[.agg #[.int .i64 Aa, .int .i64 Ac, .slice Ah Ab.length Ai]] w fun e w' => e = .returned (.bool r) ∧ Below w.heap.size w w' := by
 have hu28 := Try.underlying28; have Ao := Aside0.mk Am; have Ap := Aside0.mk An; clear Am An; have HB := aM (Below.refl w.heap.size w); have H : ((impl_isSide.f Aa).bind fun Al => (if Al = true then ((impl_isSide.f Ac).bind fun Ag => (if Ag = true then (if (Ab.length : Int) = (wrap64 (Aa * Ac)) then ((areAll_impl_isColor.f Ab).bind fun Af => (some Af)) else (some false)) else (some false))) else (some false))) = some r := h; clear h; replace H := Option.bind_eq_some_iff.mp H; obtain ⟨Al, Bs, H⟩ := H; replace H : (if Al = true then ((impl_isSide.f Ac).bind fun Ag => (if Ag = true then (if (Ab.length : Int) = (wrap64 (Aa * Ac)) then ((areAll_impl_isColor.f Ab).bind fun Af => (some Af)) else (some false)) else (some false))) else (some false)) = some r := H; have A2 := Aside0.mk Bs; clear Bs
 by_cases c3 : Al = true
 ·subst c3
  have H1 : ((impl_isSide.f Ac).bind fun Ag => (if Ag = true then (if (Ab.length : Int) = (wrap64 (Aa * Ac)) then ((areAll_impl_isColor.f Ab).bind fun Af => (some Af)) else (some false)) else (some false))) = some r := by rw [if_pos rfl] at H; exact H
  clear H; have H := H1; clear H1; replace H := Option.bind_eq_some_iff.mp H; obtain ⟨Ag, Bt, H⟩ := H; replace H : (if Ag = true then (if (Ab.length : Int) = (wrap64 (Aa * Ac)) then ((areAll_impl_isColor.f Ab).bind fun Af => (some Af)) else (some false)) else (some false)) = some r := H; have A4 := Aside0.mk Bt; clear Bt
  by_cases c5 : Ag = true
  ·subst c5
   have H1 : (if (Ab.length : Int) = (wrap64 (Aa * Ac)) then ((areAll_impl_isColor.f Ab).bind fun Af => (some Af)) else (some false)) = some r := by rw [if_pos rfl] at H; exact H
   clear H; have H := H1; clear H1
   by_cases c6 : (Ab.length : Int) = (wrap64 (Aa * Ac))
   ·rw [if_pos c6] at H
    have c6b0 : ((Ab.length : Int) == (wrap64 (Aa * Ac))) = true := beq_iff_eq.mpr c6; have c6b1 : ((Ab.length : Int) != (wrap64 (Aa * Ac))) = false := bne_eq_false_iff_eq.mpr c6; clear c6; replace H := Option.bind_eq_some_iff.mp H; obtain ⟨Af, Bu, H⟩ := H; replace H : (some Af) = some r := H; have A7 := Aside0.mk Bu; clear Bu; obtain rfl := Option.some.inj H
    go_enter Try.func45, Try.ntmps45
    go_wp2_with (first | ((with_reducible refine gate_dst (N := 1) rfl ?_); (try (refine gate_guard (by rfl) ?_; dsimp only)); refine bxE 1 #[.int .i64 Aa, .int .i64 Ac, .slice Ah Ab.length Ai] 28 ?_; intro Aj hg w8 hbox hb; have Ad := aM (hbox); have Ak := gwS hg Z0; have Ae := gwS hg Z0; replace HB := hbS Z0 hb; clear hb hbox hg; obtain ⟨Bm, Bn, Bo⟩ := bz3 Ad; obtain ⟨Bp, Bq, Br⟩ := fz3 Ad) | ((with_reducible refine gate_callee (f := 77) rfl ?_); refine glE (some 5) Try.func77 #[.int .i64 Aa] ?_; (with_reducible refine (impl_isSide.calls Aa true _ A2.out).mono ?_); rintro e w' ⟨rfl, ⟨nd, rfl⟩⟩; refine ⟨_, rfl, ?_⟩) | (go_at_call 77; (with_reducible refine (impl_isSide.calls Ac true _ A4.out).mono ?_); rintro e w' ⟨rfl, ⟨nd, rfl⟩⟩) | (go_at_call 78; (with_reducible refine (areAll_impl_isColor.calls _ _ Ab Af _ ?side1 ?side2 A7.out).mono ?_); (case side1 => repeat (first | exact (Kd.C_below Ao.out Z31) | (with_reducible refine Kd.C_alloc ?_ _) | (with_reducible refine Kd.C_drewN ?_ _) | (with_reducible refine Kd.C_drew ?_))); (case side2 => exact Ap.out); rintro e Bv ⟨rfl, hb⟩; replace Ad := bkB Ad hb; replace HB := hbS Z31 hb; (try clear hb)))
    go_ret
    exact ⟨Z6, Z31⟩
   ·rw [if_neg c6] at H
    have c6b0 : ((Ab.length : Int) == (wrap64 (Aa * Ac))) = false := beq_eq_false_iff_ne.mpr c6; have c6b1 : ((Ab.length : Int) != (wrap64 (Aa * Ac))) = true := bne_iff_ne.mpr c6; obtain rfl := Option.some.inj H
    go_enter Try.func45, Try.ntmps45
    go_wp2_with (first | ((with_reducible refine gate_dst (N := 1) rfl ?_); (try (refine gate_guard (by rfl) ?_; dsimp only)); refine bxE 1 #[.int .i64 Aa, .int .i64 Ac, .slice Ah Ab.length Ai] 28 ?_; intro Aj hg Bw hbox hb; have Ad := aM (hbox); have Ak := gwS hg Z0; have Ae := gwS hg Z0; replace HB := hbS Z0 hb; clear hb hbox hg; obtain ⟨Aq, Ar, Au⟩ := bz3 Ad; obtain ⟨Aw, Ax, Ay⟩ := fz3 Ad) | ((with_reducible refine gate_callee (f := 77) rfl ?_); refine glE (some 5) Try.func77 #[.int .i64 Aa] ?_; (with_reducible refine (impl_isSide.calls Aa true _ A2.out).mono ?_); rintro e w' ⟨rfl, ⟨nd, rfl⟩⟩; refine ⟨_, rfl, ?_⟩) | (go_at_call 77; (with_reducible refine (impl_isSide.calls Ac true _ A4.out).mono ?_); rintro e w' ⟨rfl, ⟨nd, rfl⟩⟩))
    go_ret
    exact ⟨Z6, Z31⟩
  ·replace c5 := Bool.eq_false_iff.mpr c5
   subst c5
   have H1 : (some false) = some r := by rw [if_neg (show ¬ (false = true) by decide)] at H; exact H
   clear H; have H := H1; clear H1; obtain rfl := Option.some.inj H
   go_enter Try.func45, Try.ntmps45
   go_wp2_with (first | ((with_reducible refine gate_dst (N := 1) rfl ?_); (try (refine gate_guard (by rfl) ?_; dsimp only)); refine bxE 1 #[.int .i64 Aa, .int .i64 Ac, .slice Ah Ab.length Ai] 28 ?_; intro Aj hg Bx hbox hb; have Ad := aM (hbox); have Ak := gwS hg Z0; have Ae := gwS hg Z0; replace HB := hbS Z0 hb; clear hb hbox hg; obtain ⟨Az, Ba, Bb⟩ := bz3 Ad; obtain ⟨Bc, Bd, Bf⟩ := fz3 Ad) | ((with_reducible refine gate_callee (f := 77) rfl ?_); refine glE (some 5) Try.func77 #[.int .i64 Aa] ?_; (with_reducible refine (impl_isSide.calls Aa true _ A2.out).mono ?_); rintro e w' ⟨rfl, ⟨nd, rfl⟩⟩; refine ⟨_, rfl, ?_⟩) | (go_at_call 77; (with_reducible refine (impl_isSide.calls Ac false _ A4.out).mono ?_); rintro e w' ⟨rfl, ⟨nd, rfl⟩⟩))
   go_ret
   exact ⟨Z6, Z31⟩
 ·replace c3 := Bool.eq_false_iff.mpr c3
  subst c3
  have H1 : (some false) = some r := by rw [if_neg (show ¬ (false = true) by decide)] at H; exact H
  clear H; have H := H1; clear H1; obtain rfl := Option.some.inj H
  go_enter Try.func45, Try.ntmps45
  go_wp2_with (first | ((with_reducible refine gate_dst (N := 1) rfl ?_); (try (refine gate_guard (by rfl) ?_; dsimp only)); refine bxE 1 #[.int .i64 Aa, .int .i64 Ac, .slice Ah Ab.length Ai] 28 ?_; intro Aj hg Bz hbox hb; have Ad := aM (hbox); have Ak := gwS hg Z0; have Ae := gwS hg Z0; replace HB := hbS Z0 hb; clear hb hbox hg; obtain ⟨Bg, Bh, Bi⟩ := bz3 Ad; obtain ⟨Bj, Bk, Bl⟩ := fz3 Ad) | ((with_reducible refine gate_callee (f := 77) rfl ?_); refine glE (some 5) Try.func77 #[.int .i64 Aa] ?_; (with_reducible refine (impl_isSide.calls Aa false _ A2.out).mono ?_); rintro e w' ⟨rfl, ⟨nd, rfl⟩⟩; refine ⟨_, rfl, ?_⟩))
  go_ret
  exact ⟨Z6, Z31⟩
def impl_areLots_1.f (a0 : Int) : Option (Bool) := (impl_in.f a0 1 100).bind fun t350 => (some t350)
theorem impl_areLots_1.calls (a0 : Int) (r : Bool) (w : World) (h : impl_areLots_1.f a0 = some r) :
  Calls Try.prog 81 #[.int .i64 a0] w fun e w' => e = .returned (.bool r) ∧ Drawn0 w w' := by
 have H : ((impl_in.f a0 1 100).bind fun Aa => (some Aa)) = some r := h; clear h; replace H := Option.bind_eq_some_iff.mp H; obtain ⟨Aa, Ab, H⟩ := H; replace H : (some Aa) = some r := H; have A2 := Aside0.mk Ab; clear Ab; obtain rfl := Option.some.inj H
 go_enter Try.func81, Try.ntmps81
 go_wp2_with (first | ((with_reducible refine gate_callee (f := 59) rfl ?_); refine glE (some 4) Try.func59 #[.int .i64 a0, .int .i64 1, .int .i64 100] ?_; (with_reducible refine (impl_in.calls a0 1 100 Aa _ A2.out).mono ?_); rintro e w' ⟨rfl, ⟨nd, rfl⟩⟩; refine ⟨_, rfl, ?_⟩))
 go_ret
 exact ⟨Z7, Z23⟩
theorem impl_areLots_1.tot : ∀ x : Int, impl_areLots_1.f x = some ((fun x : Int => rng x 1 100) x) := fun x => by unfold impl_areLots_1.f; rw [impl_in.eq]; rfl
def areAll_impl_areLots_1.f (l0 : List Int) : Option Bool := some (l0.all (fun x : Int => rng x 1 100))
theorem areAll_impl_areLots_1.calls (A0 : Option Addr) (c0 : Nat) (l0 : List Int) (r : Bool) (w : World) (Aa : Kd.C (Kd.int .i64) w A0 l0.length l0) (Ac : l0.length ≤ c0) (h : areAll_impl_areLots_1.f l0 = some r) :
  Calls Try.prog 78 #[.slice A0 l0.length c0, .func (.func 81) #[] #[]] w fun e w' => e = .returned (.bool r) ∧ Below w.heap.size w w' := by
 have Ab := Option.some.inj h; subst Ab
 exact areAll_int (fun x : Int => rng x 1 100) 81 #[] A0 c0 l0 w (enters_of Try.func81 Z33 rfl) Aa (fun W x _ => (impl_areLots_1.calls x _ W (impl_areLots_1.tot x)).mono fun e w' ⟨he, hd⟩ => ⟨he, by first | exact hd | exact hd.below⟩)
def impl_areLots.f (l0 : List Int) : Option (Bool) := (impl_in.f (l0.length : Int) 1 6).bind fun t351 => (if t351 = true then ((areAll_impl_areLots_1.f l0).bind fun t352 => (some t352)) else (some false))
theorem impl_areLots.calls (A0 : Option Addr) (c0 : Nat) (l0 : List Int) (r : Bool) (w : World) (Ac : Kd.C (Kd.int .i64) w A0 l0.length l0) (Ad : l0.length ≤ c0) (h : impl_areLots.f l0 = some r) :
  Calls Try.prog 57 #[.slice A0 l0.length c0] w fun e w' => e = .returned (.bool r) ∧ Below w.heap.size w w' := by
 have Ag := Aside0.mk Ac; have Ah := Aside0.mk Ad; clear Ac Ad; have HB := aM (Below.refl w.heap.size w); have H : ((impl_in.f (l0.length : Int) 1 6).bind fun Ab => (if Ab = true then ((areAll_impl_areLots_1.f l0).bind fun Aa => (some Aa)) else (some false))) = some r := h; clear h; replace H := Option.bind_eq_some_iff.mp H; obtain ⟨Ab, Ae, H⟩ := H; replace H : (if Ab = true then ((areAll_impl_areLots_1.f l0).bind fun Aa => (some Aa)) else (some false)) = some r := H; have A2 := Aside0.mk Ae; clear Ae
 by_cases c3 : Ab = true
 ·subst c3
  have H1 : ((areAll_impl_areLots_1.f l0).bind fun Aa => (some Aa)) = some r := by rw [if_pos rfl] at H; exact H
  clear H; have H := H1; clear H1; replace H := Option.bind_eq_some_iff.mp H; obtain ⟨Aa, Af, H⟩ := H; replace H : (some Aa) = some r := H; have A4 := Aside0.mk Af; clear Af; obtain rfl := Option.some.inj H
  go_enter Try.func57, Try.ntmps57
  go_wp2_with (first | ((with_reducible refine gate_callee (f := 59) rfl ?_); refine glE (some 5) Try.func59 #[.int .i64 (l0.length : Int), .int .i64 1, .int .i64 6] ?_; (with_reducible refine (impl_in.calls (l0.length : Int) 1 6 true _ A2.out).mono ?_); rintro e w' ⟨rfl, ⟨nd, rfl⟩⟩; refine ⟨_, rfl, ?_⟩) | (go_at_call 78; (with_reducible refine (areAll_impl_areLots_1.calls _ _ l0 Aa _ ?side1 ?side2 A4.out).mono ?_); (case side1 => exact (by repeat (first | exact Ag.out | (with_reducible refine Kd.C_alloc ?_ _) | (with_reducible refine Kd.C_drewN ?_ _) | (with_reducible refine Kd.C_drew ?_)))); (case side2 => exact Ah.out); rintro e w5 ⟨rfl, hb⟩; replace HB := hbS Z0 hb; (try clear hb)))
  go_ret
  exact ⟨Z6, Z0⟩
 ·replace c3 := Bool.eq_false_iff.mpr c3
  subst c3
  have H1 : (some false) = some r := by rw [if_neg (show ¬ (false = true) by decide)] at H; exact H
  clear H; have H := H1; clear H1; obtain rfl := Option.some.inj H
  go_enter Try.func57, Try.ntmps57
  go_wp2_with (first | ((with_reducible refine gate_callee (f := 59) rfl ?_); refine glE (some 5) Try.func59 #[.int .i64 (l0.length : Int), .int .i64 1, .int .i64 6] ?_; (with_reducible refine (impl_in.calls (l0.length : Int) 1 6 false _ A2.out).mono ?_); rintro e w' ⟨rfl, ⟨nd, rfl⟩⟩; refine ⟨_, rfl, ?_⟩))
  go_ret
  exact ⟨Z6, Z0⟩
def impl_hasFewAreas.f (k : Nat) (a0_0 : Int) (a0_1 : Int) (l0_2 : List Int) (a1 : Int) (l2 : List Int) : Option (Bool) := (impl_IsChart.f a0_0 a0_1 l0_2).bind fun t354 => (if t354 = true then ((impl_isColor.f a1).bind fun t355 => (if t355 = true then ((impl_areLots.f l2).bind fun t356 => (if t356 = true then ((impl_Chart_sizesOf.f k a0_0 a0_1 l0_2 a1).bind fun t357 => (some (decide ((t357.length : Int) ≤ 8)))) else (some false))) else (some false))) else (some false))
theorem impl_hasFewAreas.calls (k : Nat) (Ad : Int) (Ae : Int) (Ah : Option Addr) (Ai : Nat) (Ab : List Int) (a1 : Int) (A2 : Option Addr) (c2 : Nat) (l2 : List Int) (r : Bool) (w : World) (Ap : Kd.C (Kd.int .i64) w Ah Ab.length Ab) (Aq : Ab.length ≤ Ai) (B5 : Kd.C (Kd.int .i64) w A2 l2.length l2) (B6 : l2.length ≤ c2) (h : impl_hasFewAreas.f k Ad Ae Ab a1 l2 = some r) :
  Calls Try.prog 61 #[.agg #[.int .i64 Ad, .int .i64 Ae, .slice Ah Ab.length Ai], .int .i64 a1, .slice A2 l2.length c2] w fun e w' => e = .returned (.bool r) ∧ Below w.heap.size w w' := by
 have hu28 := Try.underlying28; have Aj := Aside0.mk Ap; have Ak := Aside0.mk Aq; clear Ap Aq; have B7 := Aside0.mk B5; have Ca := Aside0.mk B6; clear B5 B6; have HB := aM (Below.refl w.heap.size w); have H : ((impl_IsChart.f Ad Ae Ab).bind fun Ao => (if Ao = true then ((impl_isColor.f a1).bind fun Al => (if Al = true then ((impl_areLots.f l2).bind fun Ag => (if Ag = true then ((impl_Chart_sizesOf.f k Ad Ae Ab a1).bind fun Af => (some (decide ((Af.length : Int) ≤ 8)))) else (some false))) else (some false))) else (some false))) = some r := h; clear h; replace H := Option.bind_eq_some_iff.mp H; obtain ⟨Ao, Cb, H⟩ := H; replace H : (if Ao = true then ((impl_isColor.f a1).bind fun Al => (if Al = true then ((impl_areLots.f l2).bind fun Ag => (if Ag = true then ((impl_Chart_sizesOf.f k Ad Ae Ab a1).bind fun Af => (some (decide ((Af.length : Int) ≤ 8)))) else (some false))) else (some false))) else (some false)) = some r := H; have A4 := Aside0.mk Cb; clear Cb
 by_cases c5 : Ao = true
 ·subst c5
  have H1 : ((impl_isColor.f a1).bind fun Al => (if Al = true then ((impl_areLots.f l2).bind fun Ag => (if Ag = true then ((impl_Chart_sizesOf.f k Ad Ae Ab a1).bind fun Af => (some (decide ((Af.length : Int) ≤ 8)))) else (some false))) else (some false))) = some r := by rw [if_pos rfl] at H; exact H
  clear H; have H := H1; clear H1; replace H := Option.bind_eq_some_iff.mp H; obtain ⟨Al, Cc, H⟩ := H; replace H : (if Al = true then ((impl_areLots.f l2).bind fun Ag => (if Ag = true then ((impl_Chart_sizesOf.f k Ad Ae Ab a1).bind fun Af => (some (decide ((Af.length : Int) ≤ 8)))) else (some false))) else (some false)) = some r := H; have A6 := Aside0.mk Cc; clear Cc
  by_cases c7 : Al = true
  ·subst c7
   have H1 : ((impl_areLots.f l2).bind fun Ag => (if Ag = true then ((impl_Chart_sizesOf.f k Ad Ae Ab a1).bind fun Af => (some (decide ((Af.length : Int) ≤ 8)))) else (some false))) = some r := by rw [if_pos rfl] at H; exact H
   clear H; have H := H1; clear H1; replace H := Option.bind_eq_some_iff.mp H; obtain ⟨Ag, Cd, H⟩ := H; replace H : (if Ag = true then ((impl_Chart_sizesOf.f k Ad Ae Ab a1).bind fun Af => (some (decide ((Af.length : Int) ≤ 8)))) else (some false)) = some r := H; have A8 := Aside0.mk Cd; clear Cd
   by_cases c9 : Ag = true
   ·subst c9
    have H1 : ((impl_Chart_sizesOf.f k Ad Ae Ab a1).bind fun Af => (some (decide ((Af.length : Int) ≤ 8)))) = some r := by rw [if_pos rfl] at H; exact H
    clear H; have H := H1; clear H1; replace H := Option.bind_eq_some_iff.mp H; obtain ⟨Af, Ar, H⟩ := H; replace H : (some (decide ((Af.length : Int) ≤ 8))) = some r := H; have Cf := Aside0.mk Ar; clear Ar; obtain rfl := Option.some.inj H
    go_enter Try.func61, Try.ntmps61
    go_wp2_with (first | ((with_reducible refine gate_dst (N := 3) rfl ?_); (try (refine gate_guard (by rfl) ?_; dsimp only)); refine bxE 3 #[.int .i64 Ad, .int .i64 Ae, .slice Ah Ab.length Ai] 28 ?_; intro Am hg Cj hbox hb; have Aa := aM (hbox); have An := gwS hg Z0; have Ac := gwS hg Z0; replace HB := hbS Z0 hb; clear hb hbox hg; obtain ⟨Aw, Ax, Ay⟩ := bz3 Aa; obtain ⟨Az, Ba, Bb⟩ := fz3 Aa) | ((with_reducible refine gate_callee (f := 45) rfl ?_); refine glE (some 8) Try.func45 #[.agg #[.int .i64 Ad, .int .i64 Ae, .slice Ah Ab.length Ai]] ?_; (with_reducible refine (impl_IsChart.calls Ad Ae _ _ Ab true _ ?side1 ?side2 A4.out).mono ?_); (case side1 => exact Z26); (case side2 => exact Ak.out); rintro e Ck ⟨rfl, hb⟩; refine ⟨_, rfl, ?_⟩; replace Aa := bkB Aa hb; replace HB := hbS Z1 hb; (try clear hb)) | (go_at_call 53; (with_reducible refine (impl_isColor.calls a1 true _ A6.out).mono ?_); rintro e w' ⟨rfl, ⟨nd, rfl⟩⟩) | (go_at_call 57; (with_reducible refine (impl_areLots.calls _ _ l2 true _ ?side1 ?side2 A8.out).mono ?_); (case side1 => repeat (first | exact (Kd.C_below B7.out Z1) | (with_reducible refine Kd.C_alloc ?_ _) | (with_reducible refine Kd.C_drewN ?_ _) | (with_reducible refine Kd.C_drew ?_))); (case side2 => exact Ca.out); rintro e Cl ⟨rfl, hb⟩; replace Aa := bkB Aa hb; replace HB := hbS Z1 hb; (try clear hb); obtain ⟨Bc, Bd, Bf⟩ := bz3 Aa; obtain ⟨Bg, Bh, Bi⟩ := fz3 Aa) | (go_at_call 54; (with_reducible refine (impl_Chart_sizesOf.calls k Ad Ae _ _ Ab a1 Af _ ?side1 ?side2 Cf.out).mono ?_); (case side1 => exact Z26); (case side2 => exact Ak.out); rintro e Cm ⟨Cg, rfl, Ce, hb⟩; have Au := aM (Kd.R_lower Ce (below_size Z1)); replace Aa := bkB Aa hb; replace HB := hbS Z1 hb; (try clear hb); (try clear Ce); obtain ⟨Ch, Ci, B4⟩ := Kd.R_slice Au.out; subst B4))
    go_ret
    exact ⟨Z6, Z1⟩
   ·replace c9 := Bool.eq_false_iff.mpr c9
    subst c9
    have H1 : (some false) = some r := by rw [if_neg (show ¬ (false = true) by decide)] at H; exact H
    clear H; have H := H1; clear H1; obtain rfl := Option.some.inj H
    go_enter Try.func61, Try.ntmps61
    go_wp2_with (first | ((with_reducible refine gate_dst (N := 3) rfl ?_); (try (refine gate_guard (by rfl) ?_; dsimp only)); refine bxE 3 #[.int .i64 Ad, .int .i64 Ae, .slice Ah Ab.length Ai] 28 ?_; intro Am hg Cn hbox hb; have Aa := aM (hbox); have An := gwS hg Z0; have Ac := gwS hg Z0; replace HB := hbS Z0 hb; clear hb hbox hg; obtain ⟨Bj, Bk, Bl⟩ := bz3 Aa; obtain ⟨Bm, Bn, Bo⟩ := fz3 Aa) | ((with_reducible refine gate_callee (f := 45) rfl ?_); refine glE (some 8) Try.func45 #[.agg #[.int .i64 Ad, .int .i64 Ae, .slice Ah Ab.length Ai]] ?_; (with_reducible refine (impl_IsChart.calls Ad Ae _ _ Ab true _ ?side1 ?side2 A4.out).mono ?_); (case side1 => exact Z26); (case side2 => exact Ak.out); rintro e Co ⟨rfl, hb⟩; refine ⟨_, rfl, ?_⟩; replace Aa := bkB Aa hb; replace HB := hbS Z1 hb; (try clear hb)) | (go_at_call 53; (with_reducible refine (impl_isColor.calls a1 true _ A6.out).mono ?_); rintro e w' ⟨rfl, ⟨nd, rfl⟩⟩) | (go_at_call 57; (with_reducible refine (impl_areLots.calls _ _ l2 false _ ?side1 ?side2 A8.out).mono ?_); (case side1 => repeat (first | exact (Kd.C_below B7.out Z1) | (with_reducible refine Kd.C_alloc ?_ _) | (with_reducible refine Kd.C_drewN ?_ _) | (with_reducible refine Kd.C_drew ?_))); (case side2 => exact Ca.out); rintro e Cp ⟨rfl, hb⟩; replace Aa := bkB Aa hb; replace HB := hbS Z1 hb; (try clear hb)))
    go_ret
    exact ⟨Z6, Z1⟩
  ·replace c7 := Bool.eq_false_iff.mpr c7
   subst c7
   have H1 : (some false) = some r := by rw [if_neg (show ¬ (false = true) by decide)] at H; exact H
   clear H; have H := H1; clear H1; obtain rfl := Option.some.inj H
   go_enter Try.func61, Try.ntmps61
   go_wp2_with (first | ((with_reducible refine gate_dst (N := 3) rfl ?_); (try (refine gate_guard (by rfl) ?_; dsimp only)); refine bxE 3 #[.int .i64 Ad, .int .i64 Ae, .slice Ah Ab.length Ai] 28 ?_; intro Am hg Cq hbox hb; have Aa := aM (hbox); have An := gwS hg Z0; have Ac := gwS hg Z0; replace HB := hbS Z0 hb; clear hb hbox hg; obtain ⟨Bp, Bq, Br⟩ := bz3 Aa; obtain ⟨Bs, Bt, Bu⟩ := fz3 Aa) | ((with_reducible refine gate_callee (f := 45) rfl ?_); refine glE (some 8) Try.func45 #[.agg #[.int .i64 Ad, .int .i64 Ae, .slice Ah Ab.length Ai]] ?_; (with_reducible refine (impl_IsChart.calls Ad Ae _ _ Ab true _ ?side1 ?side2 A4.out).mono ?_); (case side1 => exact Z26); (case side2 => exact Ak.out); rintro e Cr ⟨rfl, hb⟩; refine ⟨_, rfl, ?_⟩; replace Aa := bkB Aa hb; replace HB := hbS Z1 hb; (try clear hb)) | (go_at_call 53; (with_reducible refine (impl_isColor.calls a1 false _ A6.out).mono ?_); rintro e w' ⟨rfl, ⟨nd, rfl⟩⟩))
   go_ret
   exact ⟨Z6, Z1⟩
 ·replace c5 := Bool.eq_false_iff.mpr c5
  subst c5
  have H1 : (some false) = some r := by rw [if_neg (show ¬ (false = true) by decide)] at H; exact H
  clear H; have H := H1; clear H1; obtain rfl := Option.some.inj H
  go_enter Try.func61, Try.ntmps61
  go_wp2_with (first | ((with_reducible refine gate_dst (N := 3) rfl ?_); (try (refine gate_guard (by rfl) ?_; dsimp only)); refine bxE 3 #[.int .i64 Ad, .int .i64 Ae, .slice Ah Ab.length Ai] 28 ?_; intro Am hg Cs hbox hb; have Aa := aM (hbox); have An := gwS hg Z0; have Ac := gwS hg Z0; replace HB := hbS Z0 hb; clear hb hbox hg; obtain ⟨Bv, Bw, Bx⟩ := bz3 Aa; obtain ⟨Bz, B0, B2⟩ := fz3 Aa) | ((with_reducible refine gate_callee (f := 45) rfl ?_); refine glE (some 8) Try.func45 #[.agg #[.int .i64 Ad, .int .i64 Ae, .slice Ah Ab.length Ai]] ?_; (with_reducible refine (impl_IsChart.calls Ad Ae _ _ Ab false _ ?side1 ?side2 A4.out).mono ?_); (case side1 => exact Z26); (case side2 => exact Ak.out); rintro e Ct ⟨rfl, hb⟩; refine ⟨_, rfl, ?_⟩; replace Aa := bkB Aa hb; replace HB := hbS Z1 hb; (try clear hb)))
  go_ret
  exact ⟨Z6, Z1⟩
theorem begun_append {ops : Array Oper} {rest : List Oper} {o : Oper} {a : Act} {Q : Exit → Act → World → Prop} {w0 W : World} (hgd : o.guard = none) (s x : Operand)
  (ho : o.op = .call { callee := .builtin .append, args := #[s, x], argTypes := #[22, 22] }) (v : Value) (b : List Int) (p : Int) (ok : Nat → Prop) (hs : a.eval s = v) (N1 : Nat) (Aa : a.eval x = .slice (some ⟨N1, 0, none⟩) 1 1) (hN1 : N1 = W.heap.size)
  (hfresh : ∀ k, W.heap.size ≤ k → ok k) (HO : Kd.R (Kd.int .i64) 3 W w0.heap.size ok v b) (HB : Below w0.heap.size w0 W) (hl : b.length ≤ 1000)
  (h : ∀ v1 w1, Kd.R (Kd.int .i64) 3 w1 w0.heap.size ok v1 (b ++ [p]) → Below w0.heap.size w0 w1 → Kept W w1 (fun k => some k = v.ownBlock) →
   (∀ (S : Nat → Prop) (w3 : World), (∀ k, ok k → ¬ S k) → Kd.R (Kd.int .i64) 3 w3 w0.heap.size ok v1 (b ++ [p]) → Kept w1 w3 (fun k => S k ∨ some k = v1.ownBlock) → Kd.R (Kd.int .i64) 3 w3 w0.heap.size ok v b ∧ Kept W w3 (fun k => S k ∨ some k = v.ownBlock)) →
   wpList Try.prog ops Q rest (a.put o.dst v1) w1) :
  wpList Try.prog ops Q (o :: rest) a (W.alloc (.cells #[.int .i64 p] 3)) := by
 subst hN1; have hx := Aa; obtain ⟨i0, hi0, hz0, hsz0, hby0⟩ := info_parts info3; have HO' := Kd.R_alloc HO (.cells #[.int .i64 p] 3); have hB' : Below w0.heap.size w0 (W.alloc (.cells #[.int .i64 p] 3)) := below_alloc HB _
 have hwn : (W.alloc (.cells #[.int .i64 p] 3)).heap.size = W.heap.size + 1 := by simp
 have hown := Kd.own_of_R HO'; have hK0 : Kept W (W.alloc (.cells #[.int .i64 p] 3)) (fun k => some k = v.ownBlock) := Kept.alloc (Kept.refl W _) _
 have hen : encs (Value.int .i64) (b ++ [p]) = encs (Value.int .i64) b ++ [.int .i64 p] := by simp [encs]
 have hone : ∀ u ∈ [Value.int .i64 p], u.oneCell' = true := fun u hu => by rw [List.mem_singleton.1 hu]; rfl
 obtain ⟨A, c, rfl⟩ := Kd.R_slice HO
 by_cases hr : b.length + 1 ≤ c
 ·have hA : ∃ g, A = some ⟨g, 0, none⟩ := by
   rcases hown.2 with ⟨hv, _⟩ | ⟨g, cap, cur, hv, _⟩
   ·injection hv with _ _ h3
    omega
   ·injection hv with h1 _ _
    exact ⟨g, h1⟩
  obtain ⟨g, rfl⟩ := hA; refine wpList_append_own_spare (W.alloc (.cells #[.int .i64 p] 3)) hgd s x 22 ho w0.heap.size 3 i0 1 Try.underlying22 hi0 hsz0 g b.length c (encs (Value.int .i64) b) hs hown ⟨W.heap.size, 0, none⟩ 1 1 [.int .i64 p] hx rfl (cell_one_new _ _ _) hone hr ?_; intro w1 hown1 hg1; rw [← hen, show b.length + 1 = (b ++ [p]).length from by simp] at hown1; have hK1 : Kept W w1 (fun k => some k = (Value.slice (some (⟨g, 0, none⟩ : Addr)) b.length c).ownBlock) := Kept.of_grown hg1 hK0 (fun k hk => .inl hk.symm); refine h _ w1 ?_ (hB'.grown hg1 hB'.size (fun k hk => ?_)) hK1 ?_
  ·have := Kd.R_of_own (h1 := fun _ => rfl) (ok := ok) hown1 (fun k hk => HO.1 k hk)
   rw [show (b ++ [p]).length = b.length + 1 from by simp] at this
   exact this
  ·injection hk with hk
   subst hk
   exact Kd.R_base HO g rfl
  ·intro S w3 hS hR3 hK3
   refine ⟨?_, hK1.mono (fun k hk => .inr hk) |>.then_ hK3 (fun k hk => .inl hk)⟩; have := Kd.R_take hR3 (m := b.length) (by simp); rwa [List.take_left' rfl] at this
 ·have hnone : A = none → b.length = 0 ∧ c = 0 := fun hA => by
   subst hA
   rcases hown.2 with ⟨hv, _⟩ | ⟨g, cap, cur, hv, _⟩
   ·injection hv with _ h2 h3
    exact ⟨h2, h3⟩
   ·injection hv with h1 _ _
    cases h1
  refine wpList_append_grows (W.alloc (.cells #[.int .i64 p] 3)) hgd s x 22 ho 3 i0 (.int .i64 0) 1 8 Try.underlying22 hi0 hz0 hsz0 hby0 rfl (by decide) A b.length c (encs (Value.int .i64) b) hs hnone (by simp [encs]) (fun b' hb' j u hj => ?_) ⟨W.heap.size, 0, none⟩ 1 1 [.int .i64 p] hx rfl (cell_one_new _ _ _) hone (by omega) (Nat.le_trans (show b.length + 1 ≤ 1001 from by omega) (by decide)) (by omega) ?_
  ·subst hb'
   rcases hown.2 with ⟨hv, _⟩ | ⟨g, cap, cur, hv, _⟩
   ·cases hv
   ·have h1 := Option.some.inj (Value.slice.inj hv).1
    subst h1
    exact hown.cells (g := g) (by simp [Value.ownBlock]) j u hj
  ·intro v1 w1 hown1 hg1
   rw [← hen, show b.length + 1 = (b ++ [p]).length from by simp] at hown1; have hR1 : Kd.R (Kd.int .i64) 3 w1 (W.alloc (.cells #[.int .i64 p] 3)).heap.size (fun _ => True) v1 (b ++ [p]) := Kd.R_of_own (h1 := fun _ => rfl) hown1 (fun _ _ => trivial); have hbs := Kd.R_base hR1; have hR1' : Kd.R (Kd.int .i64) 3 w1 w0.heap.size ok v1 (b ++ [p]) := Kd.R_lower (Kd.R_of_own (h1 := fun _ => rfl) hown1 (fun k hk => hfresh k (by have := hbs k hk; omega))) hB'.size; have hK00 : Kept W (W.alloc (.cells #[.int .i64 p] 3)) (fun _ => False) := Kept.alloc (Kept.refl W _) _; have hsz1 := hg1.size
   have hall : ∀ k, k < W.heap.size → w1.heap[k]? = W.heap[k]? := fun k hk => (hg1.block k (by omega) (by simp)).trans (hK00.2 k hk (fun h => h))
   refine h v1 w1 hR1' (hB'.grown hg1 hB'.size (fun k hk => by cases hk)) ⟨by omega, fun k hk _ => hall k hk⟩ ?_; intro S w3 hS hR3 hK3; have hsz3 := hK3.1
   have hun : ∀ k, k < W.heap.size → ¬ S k → w3.heap[k]? = W.heap[k]? := fun k hk hn => (hK3.2 k (by omega) (fun h' => h'.elim hn (fun h2 => by have := hbs k h2.symm; omega))).trans (hall k hk)
   exact ⟨Kd.R_step HO (fun k ho hk => hun k hk (hS k ho)), ⟨by omega, fun k hk hn => hun k hk (fun h' => hn (.inl h'))⟩⟩
theorem getD_rng (l : List Int) (h : ∀ x ∈ l, 0 ≤ x ∧ x ≤ 1000000) (j : Nat) : 0 ≤ l.getD j 0 ∧ l.getD j 0 ≤ 1000000 := by
 rw [List.getD_eq_getElem?_getD]
 by_cases hj : j < l.length
 ·rw [List.getElem?_eq_getElem hj]
  exact h _ (List.getElem_mem hj)
 ·rw [List.getElem?_eq_none (by omega)]
  show (0 : Int) ≤ 0 ∧ (0 : Int) ≤ 1000000
  omega
def tryL (f : Nat → Option (List Int)) : Nat → Option (List Int)
 | 0 => none
 | n + 1 => match tryL f n with | some r => some r | none => f n
theorem tryL_none (f : Nat → Option (List Int)) (n : Nat) (h : tryL f n = none) (h2 : f n = none) : tryL f (n + 1) = none := by
 rw [tryL, h]
 exact h2
theorem tryL_hit (f : Nat → Option (List Int)) (m : Nat) (r : List Int) (h : tryL f m = none) (h2 : f m = some r) : ∀ n, m < n → tryL f n = some r := by
 intro n
 induction n with
 | zero => intro h; exact absurd h (by omega)
 | succ n ih =>
  intro hm
  by_cases c : m = n
  ·subst c
   rw [tryL, h]
   exact h2
  ·rw [tryL, ih (by omega)]
def asgF (sz l b : List Int) (rec : List Int → List Int → Option (List Int)) (i : Nat) : Option (List Int) := if l.getD i 0 < sz.getD b.length 0 then none else rec (l.set i (l.getD i 0 - sz.getD b.length 0)) (b ++ [(i : Int)])
def asg (sz : List Int) : Nat → List Int → List Int → Option (List Int)
 | 0, _, b => some b
 | n + 1, l, b => tryL (asgF sz l b (asg sz n)) l.length
theorem set_back (l : List Int) (i : Nat) (x : Int) (h : i < l.length) : (l.set i x).set i (l.getD i 0) = l := by
 rw [List.set_set, List.getD_eq_getElem?_getD, List.getElem?_eq_getElem h]
 exact List.set_getElem_self h
theorem assign_calls (sz : List Int) (A0 : Option Addr) (c0 : Nat) (g : Nat) (cb : Array Value) (lb cl : Nat) (G D : Nat → Prop) (N : Nat) (J : World → Prop) (Post : List Int → World → Prop) (w0 : World)
  (eg : ∀ args w, (callFunc g args).run Try.prog w = .ok (.enter g args) w)
  (hs0 : ∀ j, 0 ≤ sz.getD j 0 ∧ sz.getD j 0 ≤ 1000000) (hsl : sz.length ≤ 100)
  (hG : ∀ k, G k → k < N ∧ k ≠ lb) (hD : ∀ k, D k → G k) (hlb : lb < N) (hN : w0.heap.size ≤ N)
  (hC : ∀ W, N ≤ W.heap.size → J W → Kd.C (Kd.int .i64) W A0 sz.length sz)
  (hJ : ∀ W W', J W → (∀ k, G k → W'.heap[k]? = W.heap[k]?) → J W')
  (hP : ∀ r W i u, Post r W → Post r (W.setCell ⟨lb, i, none⟩ u))
  (hdo : ∀ W A c (r : List Int), Below w0.heap.size w0 W → N ≤ W.heap.size → J W → r.length = sz.length → r.length ≤ c → Kd.C (Kd.int .i64) W A r.length r → Calls Try.prog g (#[.slice A r.length c] ++ cb) W fun e w' => e = .returned (.bool false) ∧ Below w0.heap.size w0 w' ∧ Kept W w' D ∧ Post r w') :
  ∀ (n : Nat) (l : List Int) (vb : Value) (b : List Int) (w : World), b.length + n = sz.length → (∀ j, 0 ≤ l.getD j 0 ∧ l.getD j 0 ≤ 1000000) → l.length ≤ 100 → Below w0.heap.size w0 w → N ≤ w.heap.size →
   Kd.R (Kd.int .i64) 3 w w0.heap.size (fun k => k = lb) (.slice (some ⟨lb, 0, none⟩) l.length cl) l → Kd.R (Kd.int .i64) 3 w w0.heap.size (fun k => k ≠ lb ∧ ¬ G k) vb b → J w →
   Calls Try.prog 62 #[.slice A0 sz.length c0, (.slice (some ⟨lb, 0, none⟩) l.length cl), vb, .func (.func g) #[] cb] w fun e w' => e = .returned (.bool (asg sz n l b).isNone) ∧ Below w0.heap.size w0 w' ∧ Kd.R (Kd.int .i64) 3 w' w0.heap.size (fun k => k = lb) (.slice (some ⟨lb, 0, none⟩) l.length cl) l ∧ Kd.R (Kd.int .i64) 3 w' w0.heap.size (fun k => k ≠ lb ∧ ¬ G k) vb b ∧ Kept w w' (fun k => (k = lb ∨ D k) ∨ some k = vb.ownBlock) ∧ (∀ r, asg sz n l b = some r → Post r w') ∧ (asg sz n l b = none → J w') := by
 intro n
 induction n with
 | zero =>
  intro l vb b w hn Ac hl hB hNw hL hb hj; have n0 : ((b.length : Int) == (sz.length : Int)) = true := beq_iff_eq.2 (by omega); have n2 : (b.length == sz.length) = true := beq_iff_eq.2 (by omega); obtain ⟨A, c, rfl⟩ := Kd.R_slice hb; have HD := aM (hdo w A c b hB hNw hj (by omega) (Kd.R_reads' hb).2.1 (Kd.R_reads' hb).2.2); have HL := Aside0.mk hL; have HB := Aside0.mk hb; have HGG := Aside0.mk hG; have HDD := Aside0.mk hD; clear hdo hC hJ hP hb hL hB hj hs0 hn Ac
  go_enter Try.func62, Try.ntmps62
  go_wp2_with fail
  refine HD.out.mono ?_; rintro e w1 ⟨rfl, hb1, hk1, hp1⟩; have H1 := Aside0.mk hb1; have H2 := Aside0.mk hk1; have H3 := Aside0.mk hp1; clear hb1 hk1 hp1
  go_wp2
  go_ret
  exact ⟨by first | rfl | (simp [asg]; done), H1.out, Kd.R_kept HL.out H2.out (fun k hk hg => (HGG.out k (HDD.out k hg)).2 hk), Kd.R_kept HB.out H2.out (fun k hk hg => hk.2 (HDD.out k hg)), H2.out.mono (fun k hk => .inl (.inr hk)), fun r hr => by have := Option.some.inj hr; subst this; exact H3.out, fun hr => by cases hr⟩
 | succ n ih =>
  intro l vb b w hn Ac hl hB hNw hL hb hj; have n0 : ((b.length : Int) == (sz.length : Int)) = false := beq_eq_false_iff_ne.2 (by omega); have n2 : (b.length == sz.length) = false := beq_eq_false_iff_ne.2 (by omega); obtain ⟨ad, e0, Aa⟩ := Kd.at_int (hC w hNw hj) (b.length : Int) (by omega) (by omega); subst e0; rw [Int.toNat_natCast] at Aa; obtain ⟨s, hs⟩ : ∃ s, s = sz.getD b.length 0 := ⟨_, rfl⟩; have ers : rd sz (b.length : Int) = s := hs.symm; rw [ers] at Aa; have hs1 := hs0 b.length; rw [← hs] at hs1; obtain ⟨A, c, rfl⟩ := Kd.R_slice hb
  have q0 : b.length < sz.length := by omega
  have q1 := eq_true (show ((b.length : Int)) < (sz.length : Int) from by omega); have HS := Aside0.mk hs; have HS1 := Aside0.mk hs1; have HN := aM (And.intro hn (And.intro hl (And.intro hNw (And.intro hsl (And.intro hlb hN))))); have HL0 := Aside0.mk Ac; have HIH := Aside0.mk ih; have HGG := Aside0.mk hG; have HDD := Aside0.mk hD; have HJJ := Aside0.mk hJ; have HPP := Aside0.mk hP; have HBW := Aside0.mk hB; have HL := Aside0.mk hL; have HB := Aside0.mk hb; have HJ := Aside0.mk hj; clear hdo hC hJ hP hb hL hB hj eg hs0 hn Ac ih hG hs hs1 ers hlb hN hNw hl hsl
  go_enter Try.func62, Try.ntmps62
  go_wp2
  clear Aa q0 q1 n0 n2
  go_loopg [27] l.length (fun gg Ae wr => ∃ x : Int, Ae = .int .i64 x ∧ Aside0 (0 ≤ x ∧ x ≤ (l.length : Int) ∧ (l.length : Int) - x ≤ gg) ∧ Aside0 (tryL (asgF sz l b (asg sz n)) x.toNat = none) ∧ Aside0 (Below w0.heap.size w0 wr) ∧ Aside0 (Kd.R (Kd.int .i64) 3 wr w0.heap.size (fun k => k = lb) (.slice (some ⟨lb, 0, none⟩) l.length cl) l) ∧ Aside0 (Kd.R (Kd.int .i64) 3 wr w0.heap.size (fun k => k ≠ lb ∧ ¬ G k) (.slice A b.length c) b) ∧ Aside0 (J wr) ∧ Aside0 (Kept w wr (fun k => (k = lb ∨ D k) ∨ some k = (Value.slice A b.length c).ownBlock)))
  case atStart => exact ⟨0, rfl, ⟨by omega, by omega, by omega⟩, ⟨rfl⟩, HBW, HL, HB, HJ, ⟨Kept.refl _ _⟩⟩
  case round =>
   clear HBW HL HB HJ; obtain ⟨x, rfl, HX, HT, HBW, HL, HB, HJ, HK⟩ := hrel
   by_cases hlt : x < (l.length : Int)
   ·have d0 : decide (x < (l.length : Int)) = true := decide_eq_true hlt
    have Aa := HX.out.1; obtain ⟨c1, f1⟩ := Kd.R_celln 0 HL.out x Aa hlt; obtain ⟨L, hL⟩ : ∃ L, L = l.getD x.toNat 0 := ⟨_, rfl⟩; have eL : rdOf (0 : Int) l x = L := hL.symm; rw [eL] at c1; have hL1 := HL0.out x.toNat; rw [← hL] at hL1; have q0 := eq_true Aa; have q1 := eq_true hlt
    have w1x : wrap64 (x + 1) = x + 1 := by have := HN.out; unfold wrap64; omega
    have HLT := Aside0.mk hlt; have HLL := Aside0.mk hL; have HL1 := Aside0.mk hL1; clear hlt Aa hL hL1 eL
    by_cases hls : L < s
    ·have d1 : decide (L < s) = true := decide_eq_true hls
     have HLS := Aside0.mk hls; clear hls
     go_wp2
     go_roundg (l.length - (x.toNat + 1))
     case measure => have := HX.out; have := HLT.out; omega
     case rel =>
      refine ⟨x + 1, by first | rfl | rw [w1x] | simp [w1x], ⟨Z132, by have := HLT.out; omega, Z120⟩, ⟨?_⟩, HBW, HL, HB, HJ, HK⟩; rw [show (x + 1).toNat = x.toNat + 1 from Z132]; refine tryL_none _ _ HT.out ?_
      unfold asgF
      rw [← HLL.out, ← HS.out, if_pos HLS.out]
    ·have d1 : decide (L < s) = false := decide_eq_false hls
     have HLS := Aside0.mk hls
     have wm : wrap64 (L - s) = L - s := by have := HL1.out; have := HS1.out; unfold wrap64; omega
     have wl : wrap64 L = L := by have := HL1.out; unfold wrap64; omega
     have wb : wrap64 (L - s + s) = L := by have := HL1.out; have := HS1.out; unfold wrap64; omega
     have HRP := aM (Kd.R_putn HL.out x (L - s))
     have ex : ((x.toNat : Nat) : Int) = x := by have := HX.out; omega
     have EX := Aside0.mk ex; have HFX : Aside0 (asgF sz l b (asg sz n) x.toNat = asg sz n (l.set x.toNat (L - s)) (b ++ [x])) := ⟨by unfold asgF; rw [← HLL.out, ← HS.out, if_neg hls, ex]⟩
     have own_ne : ∀ k, some k = (Value.slice A b.length c).ownBlock → k ≠ lb ∧ ¬ G k := fun k hk => HB.out.1 k hk.symm
     have HOW := Aside0.mk own_ne
     have hwb0 : Below w0.heap.size w0 (wr.setCell ⟨lb, x.toNat, none⟩ (.int .i64 (L - s))) := below_set HBW.out (by
      exact Kd.R_base HL.out lb rfl)
     have HWB0 := Aside0.mk hwb0; have hbs : Kd.R (Kd.int .i64) 3 (wr.setCell ⟨lb, x.toNat, none⟩ (.int .i64 (L - s))) w0.heap.size (fun k => k ≠ lb ∧ ¬ G k) (.slice A b.length c) b := Kd.R_far HB.out (p := ⟨lb, x.toNat, none⟩) (fun k hk => hk.1) _; have HBS := Aside0.mk hbs; have HNS : Aside0 (N ≤ (wr.setCell ⟨lb, x.toNat, none⟩ (.int .i64 (L - s))).heap.size) := ⟨by have h1 := HK.out.1; have h2 := HN.out; simp [World.setCell]; omega⟩; have HKS : Aside0 (Kept w (wr.setCell ⟨lb, x.toNat, none⟩ (.int .i64 (L - s))) (fun k => (k = lb ∨ D k) ∨ some k = (Value.slice A b.length c).ownBlock)) := ⟨Kept.setCell HK.out (p := ⟨lb, x.toNat, none⟩) (.inl (.inl (.inl rfl))) _⟩; have HJS : Aside0 (J (wr.setCell ⟨lb, x.toNat, none⟩ (.int .i64 (L - s)))) := ⟨HJJ.out _ _ HJ.out (fun k hk => Below.heap_setCell wr ⟨lb, x.toNat, none⟩ _ k (HGG.out k hk).2)⟩; have HBL : Aside0 (b.length ≤ 1000) := ⟨Z136⟩; have HSZ : Aside0 (wr.heap.size = (wr.setCell ⟨lb, x.toNat, none⟩ (.int .i64 (L - s))).heap.size) := ⟨by simp [World.setCell]⟩; have HFR : Aside0 (∀ k, (wr.setCell ⟨lb, x.toNat, none⟩ (.int .i64 (L - s))).heap.size ≤ k → k ≠ lb ∧ ¬ G k) := ⟨fun k hk => ⟨by have := HNS.out; have := HN.out; omega, fun hg => by have := HNS.out; have := (HGG.out k hg).1; omega⟩⟩; clear hls ex own_ne hwb0 hbs
     go_wp2_with (first | ((with_reducible refine gate_builtin (b := .append) (xs := #[.tmp 45, .tmp 47]) rfl ?_); at_builtin; refine begun_append (w0 := w0) rfl (.tmp 45) (.tmp 47) rfl (.slice A b.length c) b x (fun k => k ≠ lb ∧ ¬ G k) rfl wr.heap.size rfl HSZ.out HFR.out HBS.out HWB0.out HBL.out ?_; intro v1 w1 Ad hb1 hk1 hback; have R1 := Aside0.mk Ad; have B1 := Aside0.mk hb1; have K1 := Aside0.mk hk1; have BACK := Aside0.mk hback; clear Ad hb1 hk1 hback))
     have HL1R : Aside0 (Kd.R (Kd.int .i64) 3 w1 w0.heap.size (fun k => k = lb) (.slice (some ⟨lb, 0, none⟩) (l.set x.toNat (L - s)).length cl) (l.set x.toNat (L - s))) := ⟨by
      rw [List.length_set]
      exact Kd.R_kept HRP.out K1.out (fun k hk h2 => (HOW.out k h2).1 hk)⟩
     have HN1 : Aside0 (N ≤ w1.heap.size) := ⟨Nat.le_trans HNS.out K1.out.1⟩; have HJ1 : Aside0 (J w1) := ⟨HJJ.out _ _ HJS.out (fun k hk => K1.out.2 k (Nat.lt_of_lt_of_le (HGG.out k hk).1 HNS.out) (fun h2 => (HOW.out k h2).2 hk))⟩
     have HI := HIH.out (l.set x.toNat (L - s)) v1 (b ++ [x]) w1 (by have := HN.out.1; rw [List.length_append, List.length_singleton]; omega) (fun j => by
      have h1 := HL0.out j; have h2 := HL1.out; have h3 := HS1.out; have h4 := HLS.out; rw [List.getD_eq_getElem?_getD, List.getElem?_set]
      split
      ·split
       ·show 0 ≤ L - s ∧ L - s ≤ 1000000
        omega
       ·show (0 : Int) ≤ 0 ∧ (0 : Int) ≤ 1000000
        omega
      ·rw [← List.getD_eq_getElem?_getD]
       exact h1) (by rw [List.length_set]; exact HN.out.2.1) B1.out HN1.out HL1R.out R1.out HJ1.out
     rw [List.length_set] at HI; cases hq : asg sz n (l.set x.toNat (L - s)) (b ++ [x]) with
     | none =>
      rw [hq] at HI; have HII := Aside0.mk HI; have HQ := Aside0.mk hq; clear HI hq; refine HII.out.mono ?_; rintro e w3 ⟨rfl, h1, h2, h3, h4, _, h6⟩; have B3 := Aside0.mk h1; have L3 := Aside0.mk h2; obtain ⟨h7, h8⟩ := BACK.out (fun k => k = lb ∨ D k) w3 (fun k hk h => h.elim hk.1 (fun h' => hk.2 (HDD.out k h'))) h3 h4; have R3 := Aside0.mk h7; have K3 := aM (HKS.out.then_ h8 (fun k hk => .inl hk)); have J3 := aM (h6 rfl)
      have hlt : x < ((l.set x.toNat (L - s)).length : Int) := by rw [List.length_set]; exact HLT.out
      have h2' := h2; rw [show l.length = (l.set x.toNat (L - s)).length from (List.length_set ..).symm] at h2'; obtain ⟨c3, f3⟩ := Kd.R_celln 0 h2' x HX.out.1 hlt
      have eL3 : rdOf (0 : Int) (l.set x.toNat (L - s)) x = L - s := by
       show (l.set x.toNat (L - s)).getD x.toNat 0 = _
       rw [List.getD_eq_getElem?_getD, List.getElem?_set_self Z120]
       rfl
      rw [eL3] at c3; have Ab := Kd.R_putn h2' x L; have h5 := set_back l x.toNat (L - s) Z120; rw [← HLL.out] at h5; rw [h5, List.length_set] at Ab; have L4 := Aside0.mk Ab; clear h1 h2 h2' h3 h4 h5 h6 h7 h8 hlt eL3 Ab
      go_wp2
      go_roundg (l.length - (x.toNat + 1))
      case measure => have := HX.out; have := HLT.out; omega
      case rel =>
       refine ⟨x + 1, by first | rfl | rw [w1x] | simp [w1x], ⟨Z132, by have := HLT.out; omega, Z120⟩, ⟨?_⟩, ⟨below_set B3.out (Kd.R_base L3.out lb rfl)⟩, L4, ⟨Kd.R_far R3.out (p := ⟨lb, x.toNat, none⟩) (fun k hk => hk.1) _⟩, ⟨HJJ.out _ _ J3.out (fun k hk => Below.heap_setCell w3 ⟨lb, x.toNat, none⟩ _ k (HGG.out k hk).2)⟩, ⟨Kept.setCell K3.out (p := ⟨lb, x.toNat, none⟩) (.inl (.inl (.inl rfl))) _⟩⟩; rw [show (x + 1).toNat = x.toNat + 1 from Z132]
       exact tryL_none _ _ HT.out (HFX.out.trans HQ.out)
     | some r =>
      rw [hq] at HI; have HII := Aside0.mk HI; have HQ := Aside0.mk hq; clear HI hq; refine HII.out.mono ?_; rintro e w3 ⟨rfl, h1, h2, h3, h4, h6, _⟩; have B3 := Aside0.mk h1; have L3 := Aside0.mk h2; obtain ⟨h7, h8⟩ := BACK.out (fun k => k = lb ∨ D k) w3 (fun k hk h => h.elim hk.1 (fun h' => hk.2 (HDD.out k h'))) h3 h4; have R3 := Aside0.mk h7; have K3 := aM (HKS.out.then_ h8 (fun k hk => .inl hk)); have P3 := aM (h6 r rfl)
      have hlt : x < ((l.set x.toNat (L - s)).length : Int) := by rw [List.length_set]; exact HLT.out
      have h2' := h2; rw [show l.length = (l.set x.toNat (L - s)).length from (List.length_set ..).symm] at h2'; obtain ⟨c3, f3⟩ := Kd.R_celln 0 h2' x HX.out.1 hlt
      have eL3 : rdOf (0 : Int) (l.set x.toNat (L - s)) x = L - s := by
       show (l.set x.toNat (L - s)).getD x.toNat 0 = _
       rw [List.getD_eq_getElem?_getD, List.getElem?_set_self Z120]
       rfl
      rw [eL3] at c3; have Ab := Kd.R_putn h2' x L; have h5 := set_back l x.toNat (L - s) Z120; rw [← HLL.out] at h5; rw [h5, List.length_set] at Ab; have L4 := Aside0.mk Ab; clear h1 h2 h2' h3 h4 h5 h6 h7 h8 hlt eL3 Ab; have HHIT : Aside0 (asg sz (n + 1) l b = some r) := ⟨tryL_hit _ x.toNat r HT.out (HFX.out.trans HQ.out) l.length Z120⟩
      go_wp2
      go_ret
      exact ⟨by rw [HHIT.out]; first | rfl | (simp; done), below_set B3.out (Kd.R_base L3.out lb rfl), L4.out, Kd.R_far R3.out (p := ⟨lb, x.toNat, none⟩) (fun k hk => hk.1) _, Kept.setCell K3.out (p := ⟨lb, x.toNat, none⟩) (.inl (.inl (.inl rfl))) _, (fun r' hr' => by
       rw [HHIT.out] at hr'; obtain rfl := Option.some.inj hr'
       exact HPP.out _ _ _ _ P3.out), (fun hn => by rw [HHIT.out] at hn; cases hn)⟩
   ·have d0 : decide (x < (l.length : Int)) = false := decide_eq_false hlt
    have HNO : Aside0 (asg sz (n + 1) l b = none) := ⟨by
     have h1 := HT.out; rw [show x.toNat = l.length from Z132] at h1
     exact h1⟩
    clear hlt
    go_wp2
    go_ret
    exact ⟨by rw [HNO.out]; first | rfl | (simp; done), HBW.out, HL.out, HB.out, HK.out, (fun r hr => by rw [HNO.out] at hr; cases hr), fun _ => HJ.out⟩
set_option maxHeartbeats 4000000 in
theorem firstAssignment_1 (A : Option Addr) (c : Nat) (l : List Int) (b8 b9 : Nat) (v8 v9 : Value) (w0 W : World) (hB : Below w0.heap.size w0 W) (h8 : w0.heap.size ≤ b8) (h9 : w0.heap.size ≤ b9) (k8 : W.heap[b8]? = some (.cells #[v8] 22 (0, 0))) (k9 : W.heap[b9]? = some (.cells #[v9] 4 (0, 0))) (hne : b8 ≠ b9) (hr : Kd.C (Kd.int .i64) W A l.length l) (hc : l.length ≤ c) (hl : l.length ≤ 1000) :
  Calls Try.prog 64 #[.slice A l.length c, .pointer (some ⟨b8, 0, none⟩), .pointer (some ⟨b9, 0, none⟩)] W fun e w' => e = .returned (.bool false) ∧ Below w0.heap.size w0 w' ∧ Kept W w' (fun k => k = b8 ∨ k = b9) ∧ ∃ v, w'.heap[b8]? = some (.cells #[v] 22 (0, 0)) ∧ w'.heap[b9]? = some (.cells #[.bool true] 4 (0, 0)) ∧ Kd.R (Kd.int .i64) 3 w' W.heap.size (fun _ => True) v l := by
 have HCL := aM (slices_Clone_int.calls A c l l W hr hc (by unfold slices_Clone_int.f; rw [if_pos (by omega)])); have HB := Aside0.mk hB; have K8 := Aside0.mk k8; have K9 := Aside0.mk k9; have H8 := Aside0.mk h8; have H9 := Aside0.mk h9; have HN := Aside0.mk hne; clear hB k8 k9 h8 h9 hne hr hc hl
 go_enter Try.func64, Try.ntmps64
 go_wp2_with fail
 refine HCL.out.mono ?_; rintro e w1 ⟨v, rfl, hrow, hb⟩; obtain ⟨Av, cv, rfl⟩ := Kd.R_slice hrow; have HR := Aside0.mk hrow; have Aa := Aside0.mk hb; have L8 := aM (blk_below K8.out hb); have L9 := aM (blk_below K9.out hb); clear hrow hb; have c8 : w1.cell? ⟨b8, 0, none⟩ = some v8 := (blk_cell L8.out 0).trans rfl; have f8 := blk_frozen L8.out 0; have c9 : (w1.setCell ⟨b8, 0, none⟩ (.slice Av l.length cv)).cell? ⟨b9, 0, none⟩ = some v9 := (blk_cell (blk_far L9.out (p := ⟨b8, 0, none⟩) (fun h => HN.out h.symm) (.slice Av l.length cv)) 0).trans rfl; have f9 := blk_frozen (blk_far L9.out (p := ⟨b8, 0, none⟩) (fun h => HN.out h.symm) (.slice Av l.length cv)) 0
 go_wp2
 go_ret
 have hlt8 : b8 < W.heap.size := blk_lt K8.out; have hlt9 : b9 < W.heap.size := blk_lt K9.out; refine ⟨rfl, below_set (below_set (below_step HB.out Aa.out) H8.out) H9.out, Kept.setCell (Kept.setCell (Kept.of_below Aa.out _) (p := ⟨b8, 0, none⟩) (.inl (.inl rfl)) _) (p := ⟨b9, 0, none⟩) (.inl (.inr rfl)) _, _, blk_far (blk_put L8.out 0 _ rfl) (p := ⟨b9, 0, none⟩) HN.out _, blk_put (blk_far L9.out (p := ⟨b8, 0, none⟩) (fun h => HN.out h.symm) (.slice Av l.length cv)) 0 _ rfl, ?_⟩; have h1 := Kd.R_mono (Kd.R_bound HR.out) (ok' := fun k => W.heap.size ≤ k) (fun k hk => hk.2.1)
 exact Kd.R_mono (Kd.R_far (Kd.R_far h1 (p := ⟨b8, 0, none⟩) (fun k hk => by show k ≠ b8; omega) _) (p := ⟨b9, 0, none⟩) (fun k hk => by show k ≠ b9; omega) _) (fun _ _ => trivial)
def firstOfA (sz l2 : List Int) : List Int × Bool := match asg sz sz.length l2 [] with | some r => (r, true) | none => ([], false)
def impl_FirstAssignment.f (k : Nat) (a0_0 : Int) (a0_1 : Int) (l0_2 : List Int) (a1 : Int) (l2 : List Int) : Option (List Int × Bool) :=
 (impl_hasFewAreas.f k a0_0 a0_1 l0_2 a1 l2).bind fun t => if t = true then ((impl_Chart_sizesOf.f k a0_0 a0_1 l0_2 a1).bind fun sz => if (1 ≤ l2.length ∧ l2.length ≤ 100 ∧ sz.length ≤ 100) ∧ (∀ x ∈ sz, 0 ≤ x ∧ x ≤ 1000000) ∧ (∀ x ∈ l2, 0 ≤ x ∧ x ≤ 1000000) then some (firstOfA sz l2) else none) else some ([], false)
theorem impl_FirstAssignment.calls (k : Nat) (Ab : Int) (Ac : Int) (Ag : Option Addr) (Ah : Nat) (Aa : List Int) (a1 : Int) (A2 : Option Addr) (c2 : Nat) (l2 : List Int) (r1 : List Int) (r2 : Bool) (w : World) (Ai : Kd.C (Kd.int .i64) w Ag Aa.length Aa) (Aj : Aa.length ≤ Ah) (Ay : Kd.C (Kd.int .i64) w A2 l2.length l2) (Az : l2.length ≤ c2) (h : impl_FirstAssignment.f k Ab Ac Aa a1 l2 = some (r1, r2)) :
  Calls Try.prog 33 #[.agg #[.int .i64 Ab, .int .i64 Ac, .slice Ag Aa.length Ah], .int .i64 a1, .slice A2 l2.length c2] w fun e w' => ∃ v0_ : Value, e = .returned (.tuple #[v0_, .bool r2]) ∧ Kd.R (Kd.int .i64) 3 w' w.heap.size (fun _ => True) v0_ r1 ∧ Below w.heap.size w w' := by
 have hu28 := Try.underlying28
 have hmf : ∀ (fn : Fn) (first cap : Array Value) (w : World), (Instr.makeFunc fn first cap).run Try.prog w = .ok (.func fn first cap) w := fun _ _ _ _ => rfl
 obtain ⟨t, ht, h⟩ := Option.bind_eq_some_iff.mp h; have Ba := Aside0.mk Ai; have Bb := Aside0.mk Aj; have Bc := Aside0.mk Ay; have Bd := Aside0.mk Az; have HT := Aside0.mk ht; clear Ai Aj Ay Az ht; have HB := aM (Below.refl w.heap.size w); have HH := Aside0.mk h; clear h
 go_enter Try.func33, Try.ntmps33
 go_wp2_with (first | ((with_reducible refine gate_dst (N := 3) rfl ?_); refine bxE 3 #[.int .i64 Ab, .int .i64 Ac, .slice Ag Aa.length Ah] 28 ?_; intro g3 hg w3 hbox hb; have n0_ := aM (below_step HB.out hb); have BK := Aside0.mk hbox; have G3 := aM (Z141 : w.heap.size ≤ g3); clear HB; have HB := n0_; clear n0_ hb hbox hg; obtain ⟨An, Ao, Ap⟩ := bz3 BK; obtain ⟨Aq, Ar, Au⟩ := fz3 BK))
 refine (impl_hasFewAreas.calls k Ab Ac _ _ Aa a1 _ _ l2 t _ (Kd.C_below Ba.out HB.out) Bb.out (Kd.C_below Bc.out HB.out) Bd.out HT.out).mono ?_; rintro e w4 ⟨rfl, hb⟩; have n0_ := aM (blk_below BK.out hb); have n1_ := aM (below_step HB.out hb); clear BK HB hb An Ao Ap Aq Ar Au; have BK := n0_; have HB := n1_; clear n0_ n1_; obtain ⟨An, Ao, Ap⟩ := bz3 BK; obtain ⟨Aq, Ar, Au⟩ := fz3 BK; cases t with
 | false =>
  have h1 := HH.out; rw [if_neg (by decide)] at h1; obtain ⟨rfl, rfl⟩ := Prod.mk.inj (Option.some.inj h1); clear h1
  go_wp2
  go_ret2
  exact ⟨_, rfl, Kd.R_nil _ _ _ _ _, HB.out⟩
 | true =>
  have h1 := HH.out; rw [if_pos rfl] at h1; obtain ⟨sz, hsz, h2⟩ := Option.bind_eq_some_iff.mp h1; have HSZ := Aside0.mk hsz
  have h3 : ((1 ≤ l2.length ∧ l2.length ≤ 100 ∧ sz.length ≤ 100) ∧ (∀ x ∈ sz, 0 ≤ x ∧ x ≤ 1000000) ∧ (∀ x ∈ l2, 0 ≤ x ∧ x ≤ 1000000)) ∧ firstOfA sz l2 = (r1, r2) := by
   split at h2
   case isTrue hg => exact ⟨hg, Option.some.inj h2⟩
   case isFalse => cases h2
  have HG := Aside0.mk h3.1; have HF := Aside0.mk h3.2; clear h1 h2 h3 hsz
  go_wp2_with (first | ((with_reducible refine gate_dst (N := 15) rfl ?_); refine Kd.R_lit (Kd.int .i64) _ 3 ?hg (N := 15) ?hd (xs := ([] : List Int)) (inner := []) (ok := fun _ => True) (okp := fun _ => True) ?hr ?hp (fun _ hk => hk) trivial (Below.refl _ _) (Nat.le_refl _) (by simp) ?_; (case hd => rfl); (case hg => rfl); (case hr => first | (go_simp; done) | (go_simp; rfl)); (case hp => exact (Reps.none _ _)); intro Bj w5 Ax hb hg_ hnew_; clear hg_ hnew_; obtain ⟨Ae, Af, ev15⟩ := Kd.R_slice Ax; subst ev15; have ROW := aM (Kd.R_lower Ax HB.out.size); have n1_ := aM (blk_below BK.out hb); have n2_ := aM (below_step HB.out hb); clear BK HB hb Ax; have BK := n1_; have HB := n2_; clear n1_ n2_) | ((with_reducible refine gate_dst (N := 8) rfl ?_); refine bxE 8 #[.slice none 0 0] 22 ?_; intro g8 hg w6 hbox hb; have S8 := Aside0.mk hg; have n0_ := aM (below_step HB.out hb); have n1_ := aM (blk_below BK.out hb); have n2_ := aM (Kd.R_below ROW.out hb); have B8 := Aside0.mk hbox; have G8 := aM (Z141 : w.heap.size ≤ g8); clear HB BK ROW; have HB := n0_; have BK := n1_; have ROW := n2_; clear n0_ n1_ n2_ hb hbox hg) | ((with_reducible refine gate_dst (N := 9) rfl ?_); refine bxE 9 #[.bool false] 4 ?_; intro g9 hg w7 hbox hb; have n0_ := aM (below_step HB.out hb); have n1_ := aM (blk_below BK.out hb); have n2_ := aM (Kd.R_below ROW.out hb); have n3_ := aM (blk_below B8.out hb); have B9 := Aside0.mk hbox; have G9 := aM (Z141 : w.heap.size ≤ g9); have NE := aM (by have := blk_lt B8.out; omega : g8 ≠ g9); clear HB BK ROW B8; have HB := n0_; have BK := n1_; have ROW := n2_; have B8 := n3_; clear n0_ n1_ n2_ n3_ hb hbox hg; have c8 : w7.cell? ⟨g8, 0, none⟩ = some (.slice none 0 0) := (blk_cell B8.out 0).trans rfl; have f8 := blk_frozen B8.out 0; have c9 : (w7.setCell ⟨g8, 0, none⟩ (.slice Ae 0 Af)).cell? ⟨g9, 0, none⟩ = some (.bool false) := (blk_cell (blk_far B9.out (p := ⟨g8, 0, none⟩) (fun h => NE.out h.symm) (.slice Ae 0 Af)) 0).trans rfl; have f9 := blk_frozen (blk_far B9.out (p := ⟨g8, 0, none⟩) (fun h => NE.out h.symm) (.slice Ae 0 Af)) 0; have Ak := aM (blk_far (blk_far BK.out (p := ⟨g8, 0, none⟩) (blk_ne BK.out B8.out (by decide)) (.slice Ae 0 Af)) (p := ⟨g9, 0, none⟩) (blk_ne BK.out B9.out (by decide)) (.bool false)); have d0 : ((w7.setCell ⟨g8, 0, none⟩ (.slice Ae 0 Af)).setCell ⟨g9, 0, none⟩ (.bool false)).cell? ⟨g3, 0, none⟩ = some (.int .i64 Ab) := (blk_cell Ak.out 0).trans rfl; have d1 : ((w7.setCell ⟨g8, 0, none⟩ (.slice Ae 0 Af)).setCell ⟨g9, 0, none⟩ (.bool false)).cell? ⟨g3, 1, none⟩ = some (.int .i64 Ac) := (blk_cell Ak.out 1).trans rfl; have d2 : ((w7.setCell ⟨g8, 0, none⟩ (.slice Ae 0 Af)).setCell ⟨g9, 0, none⟩ (.bool false)).cell? ⟨g3, 2, none⟩ = some (.slice Ag Aa.length Ah) := (blk_cell Ak.out 2).trans rfl; have e0 := blk_frozen Ak.out 0; have e1 := blk_frozen Ak.out 1; have e2 := blk_frozen Ak.out 2))
  have P8 := aM (blk_far (blk_put B8.out 0 (.slice Ae 0 Af) rfl) (p := ⟨g9, 0, none⟩) NE.out (.bool false)); have P9 := aM (blk_put (blk_far B9.out (p := ⟨g8, 0, none⟩) (fun h => NE.out h.symm) (.slice Ae 0 Af)) 0 (.bool false) rfl); have PB := aM (below_set (below_set HB.out G8.out) G9.out : Below w.heap.size w ((w7.setCell ⟨g8, 0, none⟩ (.slice Ae 0 Af)).setCell ⟨g9, 0, none⟩ (.bool false))); have PR := aM (Kd.R_far (Kd.R_far (Kd.R_far1 (Kd.R_far1 ROW.out rfl (Kd.R_ne ROW.out B8.out (by decide))) rfl (Kd.R_ne ROW.out B9.out (by decide))) (p := ⟨g8, 0, none⟩) (fun k hk => hk.1.2) (.slice Ae 0 Af)) (p := ⟨g9, 0, none⟩) (fun k hk => hk.2) (.bool false)); clear c8 f8 c9 f9 d0 d1 d2 e0 e1 e2 BK Ak B8 B9 HB ROW; refine (impl_Chart_sizesOf.calls k Ab Ac _ _ Aa a1 sz _ (Kd.C_below Ba.out PB.out) Bb.out HSZ.out).mono ?_; rintro e w9 ⟨Bk, rfl, Al, hb⟩; obtain ⟨Bf, Bg, rfl⟩ := Kd.R_slice Al; have Q8 := aM (blk_below P8.out hb); have Q9 := aM (blk_below P9.out hb); have QB := aM (below_step PB.out hb); have QR := aM (Kd.R_mono (Kd.R_bound (Kd.R_below PR.out hb)) (ok' := fun k => (k ≠ g8 ∧ k ≠ g9) ∧ k < w9.heap.size) (fun k hk => ⟨⟨hk.1.1.2, hk.1.2⟩, hk.2.2.1⟩)); have QS := aM (Kd.R_mono (Kd.R_bound (Kd.R_lower Al PB.out.size)) (ok' := fun k => k < w9.heap.size) (fun k hk => hk.2.2.1)); clear hb Al P8 P9 PB PR
  go_wp2_with fail
  refine (slices_Clone_int.calls A2 c2 l2 l2 _ (Kd.C_below Bc.out QB.out) Bd.out (by unfold slices_Clone_int.f; rw [if_pos (by have := HG.out.1; omega)])).mono ?_; rintro e Am ⟨Bl, rfl, Ad, hb⟩; obtain ⟨Bh, Bi, rfl⟩ := Kd.R_slice Ad
  have hA : ∃ lb, Bh = some ⟨lb, 0, none⟩ := by
   rcases (Kd.own_of_R Ad).2 with ⟨hv, _⟩ | ⟨g, cap, cur, hv, _⟩
   ·injection hv with _ h2 _
    have := HG.out.1
    omega
   ·injection hv with h1 _ _
    exact ⟨g, h1⟩
  obtain ⟨lb, rfl⟩ := hA; have hlb9 : w9.heap.size ≤ lb := Kd.R_base Ad lb rfl; have hlbw : lb < Am.heap.size := own_lt (Kd.own_of_R Ad) lb rfl; have U8 := aM (blk_below Q8.out hb); have U9 := aM (blk_below Q9.out hb); have UB := aM (below_step QB.out hb); have UR := aM (Kd.R_below QR.out hb); have US := aM (Kd.R_below QS.out hb); have UL := aM (Kd.R_lower (Kd.R_mono (Kd.R_tight rfl Ad) (ok' := fun k => k = lb) (fun k hk => by injection hk)) QB.out.size); have N8 := aM (by have := blk_lt Q8.out; omega : g8 ≠ lb); have N9 := aM (by have := blk_lt Q9.out; omega : g9 ≠ lb); have HLB := aM (And.intro hlb9 hlbw); clear hb Ad Q8 Q9 QB QR QS hlb9 hlbw
  go_wp2_with fail
  have hPOST : Aside0 (∀ r W i u, (∃ v, W.heap[g8]? = some (.cells #[v] 22 (0, 0)) ∧ W.heap[g9]? = some (.cells #[.bool true] 4 (0, 0)) ∧ Kd.R (Kd.int .i64) 3 W w.heap.size (fun k => k ≠ lb) v r) → ∃ v, (W.setCell ⟨lb, i, none⟩ u).heap[g8]? = some (.cells #[v] 22 (0, 0)) ∧ (W.setCell ⟨lb, i, none⟩ u).heap[g9]? = some (.cells #[.bool true] 4 (0, 0)) ∧ Kd.R (Kd.int .i64) 3 (W.setCell ⟨lb, i, none⟩ u) w.heap.size (fun k => k ≠ lb) v r) := ⟨fun r W i u ⟨v, p1, p2, p3⟩ => ⟨v, blk_far p1 (p := ⟨lb, i, none⟩) N8.out u, blk_far p2 (p := ⟨lb, i, none⟩) N9.out u, Kd.R_far p3 (p := ⟨lb, i, none⟩) (fun k hk => hk) u⟩⟩
  refine (assign_calls sz Bf Bg 64 #[.pointer (some ⟨g8, 0, none⟩), .pointer (some ⟨g9, 0, none⟩)] lb Bi (fun k => k < Am.heap.size ∧ k ≠ lb) (fun k => k = g8 ∨ k = g9) Am.heap.size (fun W => ∀ k, k < Am.heap.size → k ≠ lb → W.heap[k]? = Am.heap[k]?) (fun r W => ∃ v, W.heap[g8]? = some (.cells #[v] 22 (0, 0)) ∧ W.heap[g9]? = some (.cells #[.bool true] 4 (0, 0)) ∧ Kd.R (Kd.int .i64) 3 W w.heap.size (fun k => k ≠ lb) v r) w (enters_of Try.func64 Z33 rfl) (getD_rng sz HG.out.2.1) HG.out.1.2.2 (fun k hk => hk) (fun k hk => by
    rcases hk with hk | hk
    ·rw [hk]; exact ⟨blk_lt U8.out, N8.out⟩
    ·rw [hk]; exact ⟨blk_lt U9.out, N9.out⟩) HLB.out.2 UB.out.size
   (fun W hN hJ => (Kd.R_reads' (Kd.R_step US.out (fun k hk hk2 => hJ k hk2 (by have := HLB.out.1; omega)))).2.2) (fun W W' hJ hk k h1 h2 => (hk k ⟨h1, h2⟩).trans (hJ k h1 h2)) hPOST.out (fun W A' c' r hb hNW hJ hl hc hr => ?_) sz.length l2 (.slice none 0 0) [] Am (Nat.zero_add _) (getD_rng l2 HG.out.2.2) HG.out.1.2.1 UB.out (Nat.le_refl _) UL.out (Kd.R_nil _ _ _ _ _) (fun _ _ _ => rfl)).mono ?_
  ·refine (firstAssignment_1 A' c' r g8 g9 _ _ w W hb G8.out G9.out ((hJ g8 (blk_lt U8.out) N8.out).trans U8.out) ((hJ g9 (blk_lt U9.out) N9.out).trans U9.out) NE.out hr hc (by have := HG.out.1.2.2; omega)).mono ?_
   rintro e w' ⟨rfl, q1, q2, v, q3, q4, q5⟩
   exact ⟨rfl, q1, q2, v, q3, q4, Kd.R_lower (Kd.R_mono (Kd.R_bound q5) (fun k hk => by have := hk.2.1; have := HLB.out.2; omega)) hb.size⟩
  ·rintro e Aw ⟨rfl, hb, _, _, hk, hsome, hnone⟩
   have HBB := Aside0.mk hb
   have hres : ∃ v fl, Aw.heap[g8]? = some (.cells #[v] 22 (0, 0)) ∧ Aw.heap[g9]? = some (.cells #[.bool fl] 4 (0, 0)) ∧ Kd.R (Kd.int .i64) 3 Aw w.heap.size (fun _ => True) v r1 ∧ fl = r2 := by
    have hf := HF.out
    unfold firstOfA at hf
    cases ha : asg sz sz.length l2 [] with
    | some r =>
     rw [ha] at hf; obtain ⟨e1, e2⟩ := Prod.mk.inj hf; obtain ⟨v, q3, q4, q5⟩ := hsome r ha
     exact ⟨v, true, q3, q4, by rw [← e1]; exact Kd.R_mono q5 (fun _ _ => trivial), e2⟩
    | none =>
     rw [ha] at hf; obtain ⟨e1, e2⟩ := Prod.mk.inj hf; have hJ := hnone ha
     exact ⟨.slice Ae 0 Af, false, (hJ g8 (blk_lt U8.out) N8.out).trans U8.out, (hJ g9 (blk_lt U9.out) N9.out).trans U9.out, by rw [← e1]; exact Kd.R_mono (Kd.R_step UR.out (fun k hk hk2 => hJ k hk2 (by have := HLB.out.1; omega))) (fun _ _ => trivial), e2⟩
   obtain ⟨v, fl, q3, q4, q5, rfl⟩ := hres; obtain ⟨Av, cv, rfl⟩ := Kd.R_slice q5; have c8 : Aw.cell? ⟨g8, 0, none⟩ = some (.slice Av r1.length cv) := (blk_cell q3 0).trans rfl; have f8 := blk_frozen q3 0; have c9 : Aw.cell? ⟨g9, 0, none⟩ = some (.bool fl) := (blk_cell q4 0).trans rfl; have f9 := blk_frozen q4 0; have Q5 := Aside0.mk q5; clear hb hk hsome hnone q3 q4 q5
   go_wp2
   repeat (go_quiet (fail); try go_wp2)
   go_ret2
   exact ⟨_, rfl, by (with_reducible repeat (first | apply Kd.R_alloc | apply Kd.R_drewN | apply Kd.R_drew)); exact Q5.out, by repeat (first | exact HBB.out | apply below_alloc | apply pw_below_drewN | apply below_drew1)⟩
end Go.Proofs.Ytaadbpibmlnncaa.H
