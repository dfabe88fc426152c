-- by wip/pack.py of this repo
import Derived.Test.YtaadbpibmlnncaaZ06Hx0
import Derived.Test.YtaadbpibmlnncaaZ06Hx2
import Derived.Test.YtaadbpibmlnncaaZ06WGuard
import Derived.Test.YtaadbpibmlnncaaZ06WLast
import Derived.Test.YtaadbpibmlnncaaZ06WMore
import Derived.Test.YtaadbpibmlnncaaZ06WWords
import Derived.Test.YtaadbpibmlnncaaZ06Short
namespace Go.Proofs.Ytaadbpibmlnncaa.H
open Go.RowKit Go.Proofs.YtaadbpibmlnncaaW.PrintWords Go.Proofs.YtaadbpibmlnncaaW.PrintLast Go.Proofs.YtaadbpibmlnncaaW.PrintMore
attribute [local go_sem] max2_int min2_int max_two min_two max_three min_three max_four min_four
set_option maxHeartbeats 8000000
set_option maxRecDepth 100000
set_option linter.unusedVariables false
set_option linter.unusedSimpArgs false
def spec_l12Sizes.l0 : Nat → List Int → List Int → List Int → Int → Int → Int → List Int → Option (List Int × List Int)
 | 0, _, _, _, _, _, _, _ => none
 | k + 1, x4, x6, x7, x8, x171000, x171001, x171002 => if x8 < (x4.length : Int) then (if 0 ≤ x8 then (if 0 ≤ (rd x4 x8) then (if (rd x4 x8) < (x6.length : Int) then (if x8 < (x171002.length : Int) then (if (rd x4 x8) < (x7.length : Int) then (spec_l12Sizes.l0 k x4 (x6.set ((rd x4 x8) : Int).toNat (wrap64 ((rd x6 (rd x4 x8)) + 1))) (x7.set ((rd x4 x8) : Int).toNat (rd x171002 x8)) (wrap64 (x8 + 1)) x171000 x171001 x171002) else (none)) else (none)) else (none)) else (none)) else (none)) else (some (x6, x7))
def spec_l12Sizes.f (k : Nat) (a0_0 : Int) (a0_1 : Int) (l0_2 : List Int) : Option (List Int × List Int) := (spec_l12Areas.f k a0_0 a0_1 l0_2).bind fun bt171 => (if 0 ≤ bt171.2 then (if (bt171.2 : Int).toNat ≤ 35184372088832 then (spec_l12Sizes.l0 k bt171.1 (List.replicate (bt171.2 : Int).toNat 0) (List.replicate (bt171.2 : Int).toNat 0) 0 a0_0 a0_1 l0_2) else (none)) else (none))
theorem spec_l12Sizes.calls (k : Nat) (Ah : Int) (Ai : Int) (Ba : Option Addr) (Aw : Nat) (Ae : List Int) (r1 : List Int) (r2 : List Int) (w : World) (Bt : Kd.C (Kd.int .i64) w Ba Ae.length Ae) (Bu : Ae.length ≤ Aw) (h : spec_l12Sizes.f k Ah Ai Ae = some (r1, r2)) :
  Calls Try.prog 47 #[.agg #[.int .i64 Ah, .int .i64 Ai, .slice Ba Ae.length Aw]] w fun e w' => ∃ v0_ v1_ : Value, e = .returned (.tuple #[v0_, v1_]) ∧ Kd.R (Kd.int .i64) 3 w' w.heap.size (fun k_ => nV k_ v1_) v0_ r1 ∧ Kd.R (Kd.int .i64) 3 w' w.heap.size (fun k_ => nV k_ v0_) v1_ r2 ∧ Below w.heap.size w w' := by
 have hu28 := Try.underlying28; have Bv := Aside0.mk Bt; have Ch := Aside0.mk Bu; clear Bt Bu; have HB := aM (Below.refl w.heap.size w); have H : ((spec_l12Areas.f k Ah Ai Ae).bind fun Bb => (if 0 ≤ Bb.2 then (if (Bb.2 : Int).toNat ≤ 35184372088832 then (spec_l12Sizes.l0 k Bb.1 (List.replicate (Bb.2 : Int).toNat 0) (List.replicate (Bb.2 : Int).toNat 0) 0 Ah Ai Ae) else (none)) else (none))) = some (r1, r2) := h; clear h; replace H := Option.bind_eq_some_iff.mp H; obtain ⟨⟨Ac, Ag⟩, Dh, H⟩ := H; replace H : (if 0 ≤ Ag then (if (Ag : Int).toNat ≤ 35184372088832 then (spec_l12Sizes.l0 k Ac (List.replicate (Ag : Int).toNat 0) (List.replicate (Ag : Int).toNat 0) 0 Ah Ai Ae) else (none)) else (none)) = some (r1, r2) := H; have A2 := Aside0.mk Dh; clear Dh
 by_cases c3 : 0 ≤ Ag
 ·rw [if_pos c3] at H
  have c3b0 := eq_true c3; have c3b1 : decide (0 ≤ Ag) = true := decide_eq_true c3; clear c3
  by_cases c4 : (Ag : Int).toNat ≤ 35184372088832
  ·rw [if_pos c4] at H
   have c4b0 := eq_true c4; have c4b1 : decide ((Ag : Int).toNat ≤ 35184372088832) = true := decide_eq_true c4; clear c4; obtain ⟨Bn, Bc⟩ : ∃ y_ : List Int, y_ = (List.replicate (Ag : Int).toNat 0) := ⟨_, rfl⟩
   replace H : (spec_l12Sizes.l0 k Ac Bn (List.replicate (Ag : Int).toNat 0) 0 Ah Ai Ae) = some (r1, r2) := by first | (rw [Bc]; with_reducible exact H) | (have H2_ := (Option.bind_some _ _).symm.trans H; rw [Bc]; with_reducible exact H2_) | (have H2_ := (Option.bind_some _ _).symm.trans H; with_reducible exact H2_) | with_reducible exact H | (rw [Bc]; exact H) | exact H
   have Bl := Aside0.mk Bc; clear Bc; obtain ⟨Bp, Bd⟩ : ∃ y_ : List Int, y_ = (List.replicate (Ag : Int).toNat 0) := ⟨_, rfl⟩
   replace H : (spec_l12Sizes.l0 k Ac Bn Bp 0 Ah Ai Ae) = some (r1, r2) := by first | (rw [Bd]; with_reducible exact H) | (have H2_ := (Option.bind_some _ _).symm.trans H; rw [Bd]; with_reducible exact H2_) | (have H2_ := (Option.bind_some _ _).symm.trans H; with_reducible exact H2_) | with_reducible exact H | (rw [Bd]; exact H) | exact H
   have Bm := Aside0.mk Bd; clear Bd; have H' := Aside0.mk H; clear H
   go_enter Try.func47, Try.ntmps47
   try go_wp2_with (first | ((with_reducible refine gate_dst (N := 1) rfl ?_); refine bxE 1 #[.int .i64 Ah, .int .i64 Ai, .slice Ba Ae.length Aw] 28 ?_; intro Bf hg w5 hbox hb; have Ab := aM (hbox); have Di := gwS hg Z0; have Af := gwS hg Z0; replace HB := hbS Z0 hb; clear hb hbox hg; obtain ⟨Bw, Bx, Bz⟩ := bz3 Ab; obtain ⟨B0, B2, B4⟩ := fz3 Ab) | ((with_reducible refine gate_callee (f := 44) rfl ?_); refine glE (some 12) Try.func44 #[.agg #[.int .i64 Ah, .int .i64 Ai, .slice Ba Ae.length Aw]] ?_; (with_reducible refine (spec_l12Areas.calls k Ah Ai _ _ Ae Ac Ag _ ?side1 ?side2 A2.out).mono ?_); (case side1 => exact Z76); (case side2 => exact Ch.out); rintro e w7 ⟨Ax, rfl, Dj, hb⟩; refine ⟨_, rfl, ?_⟩; have Ad := aM (Kd.R_lower Dj (below_size Z2)); replace Ab := bkB Ab hb; replace HB := hbS Z2 hb; (try clear hb); (try clear Dj)))
   replace Ad := aM (Kd.R_drew Ad.out); replace Ab := aM (blk_drew Ab.out); replace HB := aM (below_drew1 HB.out); refine start_ (n := 6) (S := fun w' => True) (ds := []) #[false, false, false, false, false, false] Z33 rfl rfl trivial (fun hHeld => ?_)
   generalize w7.drew = w8 at Ad Ab HB hHeld ⊢
   refine puK 0 15 #[true, false, false, false, false, false] rfl rfl ?_; refine puK 2 17 #[true, false, true, false, false, false] rfl rfl ?_; refine join_ (σ := Value × Value) 1 #[true, true, true, true, true, false] (fun s_ => [(16, s_.1), (18, s_.2), (6, s_.1)]) (fun s_ w' => (Kd.R (Kd.int .i64) 3 w' w.heap.size (fun k_ => some k_ ≠ (s_.1 : Value).ownBlock ∧ some k_ ≠ (s_.2 : Value).ownBlock) Ax Ac) ∧ (Kd.R (Kd.int .i64) 3 w' w.heap.size (fun k_ => nV k_ Ax ∧ some k_ ≠ (s_.2 : Value).ownBlock) s_.1 Bn) ∧ (Kd.R (Kd.int .i64) 3 w' w.heap.size (fun k_ => nV k_ Ax ∧ some k_ ≠ (s_.1 : Value).ownBlock) s_.2 Bp) ∧ (w'.heap[Bf]? = some (.cells #[.int .i64 Ah, .int .i64 Ai, .slice Ba Ae.length Aw] 28 (0, 0))) ∧ (Below w.heap.size w w')) ?_ ?_
   rotate_left
   ·intro hCont
    refine two_ (i := 1) (j := 3) (Ni := some 16) (Nj := some 18) #[true, true, true, false, false, false] #[true, false, true, true, false, false] rfl rfl rfl rfl Z33 (by decide) (by decide) (fun K hK => ?_) (fun K hK => ?_)
    ·skip
     refine Kd.R_make_step (Kd.int .i64) _ 3 (by rfl) (N := 16) rfl 22 _ _ rfl Ag rfl rfl Try.underlying22 (.int .i64 0) 8 info3 rfl (by decide) (by omega) 0 (ok := fun _ => True) (okp := fun _ => True) rfl (fun _ hk => hk) trivial (of_decide_eq_true Z3) (Nat.le_trans (Nat.mul_le_mul_right _ (of_decide_eq_true Z3 : Ag.toNat ≤ 35184372088832)) (by omega)) (Below.refl _ _) (Nat.le_refl _) ?_; intro Ar w9 Am hb hg_ hnew_; clear hg_ hnew_
     (first | rw [← Bl.out] at Am | (simp only [Int.reduceToNat] at Am; rw [← Bl.out] at Am))
     have An := aM (Kd.R_lower (Kd.R_new' Am (Kd.R_lt Z18)) (below_size Z2)); replace Ad := aM (Kd.R_elder' Z18 (Kd.R_base Am) hb); replace Ab := bkB Ab hb; replace HB := hbS Z2 hb; clear hb Am; refine hK.out _ _ trivial (fun hHeld => ?_); clear hK K; refine noR 16 ?_; refine puK 4 6 #[true, true, true, false, true, false] rfl rfl ?_; refine one_ (i := 3) (N := some 18) #[true, true, true, true, true, false] rfl rfl Z33 (by decide) (fun K hK => ?_); refine Kd.R_make_step (Kd.int .i64) _ 3 (by rfl) (N := 18) rfl 22 _ _ rfl Ag rfl rfl Try.underlying22 (.int .i64 0) 8 info3 rfl (by decide) (by omega) 0 (ok := fun _ => True) (okp := fun _ => True) rfl (fun _ hk => hk) trivial (of_decide_eq_true Z3) (Nat.le_trans (Nat.mul_le_mul_right _ (of_decide_eq_true Z3 : Ag.toNat ≤ 35184372088832)) (by omega)) (Below.refl _ _) (Nat.le_refl _) ?_; intro Ap Dk Ak hb hg_ hnew_; clear hg_ hnew_
     (first | rw [← Bm.out] at Ak | (simp only [Int.reduceToNat] at Ak; rw [← Bm.out] at Ak))
     have Ao := aM (Kd.R_lower (Kd.R_new' (Kd.R_new' Ak (Kd.R_lt Z18)) (Kd.R_lt Z41)) (below_size Z2)); replace Ad := aM (Kd.R_elder' Z18 (Kd.R_base Ak) hb); replace An := aM (Kd.R_elder' Z41 (Kd.R_base Ak) hb); replace Ab := bkB Ab hb; replace HB := hbS Z2 hb; clear hb Ak; refine hK.out _ _ trivial (fun hHeld => ?_); clear hK K; refine noR 18 ?_
     exact norm_ Z72 (hCont (Ar, Ap) _ ⟨Z105, Z50, Z51, Z9, Z2⟩)
    ·skip
     refine Kd.R_make_step (Kd.int .i64) _ 3 (by rfl) (N := 18) rfl 22 _ _ rfl Ag rfl rfl Try.underlying22 (.int .i64 0) 8 info3 rfl (by decide) (by omega) 0 (ok := fun _ => True) (okp := fun _ => True) rfl (fun _ hk => hk) trivial (of_decide_eq_true Z3) (Nat.le_trans (Nat.mul_le_mul_right _ (of_decide_eq_true Z3 : Ag.toNat ≤ 35184372088832)) (by omega)) (Below.refl _ _) (Nat.le_refl _) ?_; intro Ap w9 Am hb hg_ hnew_; clear hg_ hnew_
     (first | rw [← Bm.out] at Am | (simp only [Int.reduceToNat] at Am; rw [← Bm.out] at Am))
     have Ao := aM (Kd.R_lower (Kd.R_new' Am (Kd.R_lt Z18)) (below_size Z2)); replace Ad := aM (Kd.R_elder' Z18 (Kd.R_base Am) hb); replace Ab := bkB Ab hb; replace HB := hbS Z2 hb; clear hb Am; refine hK.out _ _ trivial (fun hHeld => ?_); clear hK K; refine noR 18 ?_; refine one_ (i := 1) (N := some 16) #[true, true, true, true, false, false] rfl rfl Z33 (by decide) (fun K hK => ?_); refine Kd.R_make_step (Kd.int .i64) _ 3 (by rfl) (N := 16) rfl 22 _ _ rfl Ag rfl rfl Try.underlying22 (.int .i64 0) 8 info3 rfl (by decide) (by omega) 0 (ok := fun _ => True) (okp := fun _ => True) rfl (fun _ hk => hk) trivial (of_decide_eq_true Z3) (Nat.le_trans (Nat.mul_le_mul_right _ (of_decide_eq_true Z3 : Ag.toNat ≤ 35184372088832)) (by omega)) (Below.refl _ _) (Nat.le_refl _) ?_; intro Ar Dk Ak hb hg_ hnew_; clear hg_ hnew_
     (first | rw [← Bl.out] at Ak | (simp only [Int.reduceToNat] at Ak; rw [← Bl.out] at Ak))
     have An := aM (Kd.R_lower (Kd.R_new' (Kd.R_new' Ak (Kd.R_lt Z18)) (Kd.R_lt Z28)) (below_size Z2)); replace Ad := aM (Kd.R_elder' Z18 (Kd.R_base Ak) hb); replace Ao := aM (Kd.R_elder' Z28 (Kd.R_base Ak) hb); replace Ab := bkB Ab hb; replace HB := hbS Z2 hb; clear hb Ak; refine hK.out _ _ trivial (fun hHeld => ?_); clear hK K; refine noR 16 ?_; refine puK 4 6 #[true, true, true, true, true, false] rfl rfl ?_
     exact norm_ Z72 (hCont (Ar, Ap) _ ⟨Z106, Z50, Z51, Z9, Z2⟩)
   rintro ⟨Ar, Ap⟩ Ci ⟨h0_, h1_, h2_, h3_, h4_⟩; have n0_ : Aside0 (Kd.R (Kd.int .i64) 3 Ci w.heap.size (fun k_ => nV k_ Ar ∧ nV k_ Ap) Ax Ac) := ⟨h0_⟩; have n1_ : Aside0 (Kd.R (Kd.int .i64) 3 Ci w.heap.size (fun k_ => nV k_ Ax ∧ nV k_ Ap) Ar Bn) := ⟨h1_⟩; have n2_ : Aside0 (Kd.R (Kd.int .i64) 3 Ci w.heap.size (fun k_ => nV k_ Ax ∧ nV k_ Ar) Ap Bp) := ⟨h2_⟩; have n3_ : Aside0 (Ci.heap[Bf]? = some (.cells #[.int .i64 Ah, .int .i64 Ai, .slice Ba Ae.length Aw] 28 (0, 0))) := ⟨h3_⟩; have n4_ : Aside0 (Below w.heap.size w Ci) := ⟨h4_⟩; clear Ad; clear Ab; clear HB; clear h0_ h1_ h2_ h3_ h4_; have Ad := n0_; have An := n1_; have Ao := n2_; have Ab := n3_; have HB := n4_; clear n0_ n1_ n2_ n3_ n4_; have hHeld := trivial; refine norm_ (a' := ?_) ?_ ?_
   rotate_left
   ·simp only [putAll, Act.put, List.setIfInBounds_toArray, List.set_cons_zero, List.set_cons_succ]
    rfl
   refine puK 5 7 #[true, true, true, true, true, true] rfl rfl ?_; refine done_ Z33 ?_
   try go_wp2
   go_loopg [8] k (fun kq v8 w' => ∃ (Aj : List Int) (Al : List Int) (Aa : Int), v8 = .int .i64 Aa ∧ Aside0 (spec_l12Sizes.l0 kq Ac Aj Al Aa Ah Ai Ae = some (r1, r2)) ∧ Aside0 (kq ≤ k) ∧ Aside0 (Kd.R (Kd.int .i64) 3 w' w.heap.size (fun k_ => nV k_ Ar ∧ nV k_ Ap) Ax Ac) ∧ Aside0 (Kd.R (Kd.int .i64) 3 w' w.heap.size (fun k_ => nV k_ Ax ∧ nV k_ Ap) Ar Aj) ∧ Aside0 (Kd.R (Kd.int .i64) 3 w' w.heap.size (fun k_ => nV k_ Ax ∧ nV k_ Ar) Ap Al) ∧ Aside0 (w'.heap[Bf]? = some (.cells #[.int .i64 Ah, .int .i64 Ai, (.slice Ba Ae.length Aw)] 28 (0, 0))) ∧ Aside0 (Below w.heap.size w w'))
   case atStart => exact ⟨(Bn), (Bp), (0), Z7, H', ⟨Nat.le_refl _⟩, ⟨Z18⟩, ⟨Z41⟩, ⟨Z28⟩, ⟨Z9⟩, ⟨Z2⟩⟩
   case round =>
    clear H'; (try clear p2); (try clear c3); (try clear c3b0); (try clear c3b1); (try clear c4); (try clear c4b0); (try clear c4b1); (try clear Bw); (try clear Bx); (try clear Bz); (try clear B0); (try clear B2); (try clear B4); obtain ⟨Aj, Al, Aa, rfl, HA, HK1, Bg, Aq, Au, Ab, HB⟩ := hrel; cases gk with
    | zero => exact absurd HA.out (by simp [spec_l12Sizes.l0])
    | succ k1 =>
     have H := HA.out; clear HA
     simp only [spec_l12Sizes.l0] at H
     by_cases Cg : Aa < (Ac.length : Int)
     ·rw [if_pos Cg] at H
      have c14b0 : decide (Aa < (Ac.length : Int)) = true := decide_eq_true Cg; clear Cg
      by_cases Cq : 0 ≤ Aa
      ·rw [if_pos Cq] at H
       have c15b0 : decide (0 ≤ Aa) = true := decide_eq_true Cq; clear Cq
       by_cases Cr : 0 ≤ (rd Ac Aa)
       ·rw [if_pos Cr] at H
        have c16b0 : decide (0 ≤ (rd Ac Aa)) = true := decide_eq_true Cr; clear Cr
        by_cases Cs : (rd Ac Aa) < (Aj.length : Int)
        ·rw [if_pos Cs] at H
         have c17b0 : decide ((rd Ac Aa) < (Aj.length : Int)) = true := decide_eq_true Cs; clear Cs; obtain ⟨Bq, Bh⟩ : ∃ y_ : List Int, y_ = (Aj.set ((rd Ac Aa) : Int).toNat (wrap64 ((rd Aj (rd Ac Aa)) + 1))) := ⟨_, rfl⟩
         replace H : (if Aa < (Ae.length : Int) then (if (rd Ac Aa) < (Al.length : Int) then (spec_l12Sizes.l0 k1 Ac Bq (Al.set ((rd Ac Aa) : Int).toNat (rd Ae Aa)) (wrap64 (Aa + 1)) Ah Ai Ae) else (none)) else (none)) = some (r1, r2) := by first | (rw [Bh]; with_reducible exact H) | (have H2_ := (Option.bind_some _ _).symm.trans H; rw [Bh]; with_reducible exact H2_) | (have H2_ := (Option.bind_some _ _).symm.trans H; with_reducible exact H2_) | with_reducible exact H | (rw [Bh]; exact H) | exact H
         have Cj := Aside0.mk Bh; clear Bh
         by_cases Ct : Aa < (Ae.length : Int)
         ·rw [if_pos Ct] at H
          have c19b0 : decide (Aa < (Ae.length : Int)) = true := decide_eq_true Ct; clear Ct
          by_cases Cu : (rd Ac Aa) < (Al.length : Int)
          ·rw [if_pos Cu] at H
           have c20b0 : decide ((rd Ac Aa) < (Al.length : Int)) = true := decide_eq_true Cu; clear Cu; obtain ⟨B5, Bi⟩ : ∃ y_ : List Int, y_ = (Al.set ((rd Ac Aa) : Int).toNat (rd Ae Aa)) := ⟨_, rfl⟩
           replace H : (spec_l12Sizes.l0 k1 Ac Bq B5 (wrap64 (Aa + 1)) Ah Ai Ae) = some (r1, r2) := by first | (rw [Bi]; with_reducible exact H) | (have H2_ := (Option.bind_some _ _).symm.trans H; rw [Bi]; with_reducible exact H2_) | (have H2_ := (Option.bind_some _ _).symm.trans H; with_reducible exact H2_) | with_reducible exact H | (rw [Bi]; exact H) | exact H
           have Ck := Aside0.mk Bi; clear Bi; have H' := Aside0.mk H; clear H; obtain ⟨Dl, Br, C3⟩ := Kd.R_slice Bg.out; subst C3; have B6 : 0 ≤ (Aa : Int) := of_decide_eq_true Z3; have B7 : Aa < (Ac.length : Int) := of_decide_eq_true Z3; obtain ⟨ad181, e181, Cv⟩ := Kd.at_int (Kd.R_reads' Bg.out).2.2 Aa B6 B7; cases e181; replace B6 := eq_true B6; replace B7 := eq_true B7; obtain ⟨Dm, Bj, C4⟩ := Kd.R_slice Aq.out; subst C4; have Ca : 0 ≤ ((rd Ac Aa) : Int) := of_decide_eq_true Z3; have Cb : (rd Ac Aa) < (Aj.length : Int) := of_decide_eq_true Z3; obtain ⟨ad182, e182, Bs⟩ := Kd.at_int (Kd.R_reads' Aq.out).2.2 (rd Ac Aa) Ca Cb; cases e182; replace Ca := eq_true Ca; replace Cb := eq_true Cb; have C5 : 0 ≤ ((rd Ac Aa) : Int) := of_decide_eq_true Z3; have C6 : ((rd Ac Aa) : Int) < ((Aj.length : Int) : Int) := of_decide_eq_true Z3; obtain ⟨Ay, Dn, Cl, Cm, gl18, cl18, HG18⟩ := Kd.R_form Aq.out (by omega)
           (first | cases Cl | (injection Cl with ea_ en_ ec_; (first | subst ea_ | (injection ea_ with ea_; subst ea_)); subst ec_; clear en_))
           have C7 := Aside0.mk Cm; have Dp := Aside0.mk HG18; clear Cm gl18 HG18
           (first | simp only [add_plain] at Bs | skip)
           obtain ⟨C8, C9⟩ := Kd.R_celln 0 Aq.out ((rd Ac Aa) : Int) C5 C6; replace C5 := eq_true C5; replace C6 := eq_true C6; have Cc := Kd.R_putg Aq.out ((rd Ac Aa) : Int) (wrap64 ((rd Aj (rd Ac Aa)) + 1))
           go_wp2_with (first | ((with_reducible refine gate_store (t := 3) (p := 36) rfl ?_); refine store_event (t := 3) (p := 36) (v := ?vo_w25) (w1 := (wr.setCell ⟨Ay, ((rd Ac Aa) : Int).toNat, none⟩ (.int .i64 (wrap64 ((rd Aj (rd Ac Aa)) + 1))))) ?hg ?ho ?hn ?hr ?_; (case ho => rfl); (case hg => rfl); (case hn => rfl); (case hr => first | (go_simp; done) | (go_simp; rfl)); intro Cn hw; have hg : wr.grownBy Cn (some Ay) := (by rw [hw]; exact Cc.2); have hp_ : Kd.R (Kd.int .i64) 3 Cn w.heap.size (fun k_ => some k_ ≠ (.slice (some ad181) Ac.length Br : Value).ownBlock ∧ nV k_ Ap) (.slice (some ⟨Ay, 0, none⟩) Aj.length Bj) Bq := (by rw [hw, Cj.out]; exact Cc.1); clear Cc; replace Bg := aM (Kd.R_after (v := (.slice (some ⟨Ay, 0, none⟩) Aj.length Bj)) (v1 := (.slice (some ⟨Ay, 0, none⟩) Aj.length Bj)) (ok := (fun k_ => nV k_ Ap)) Z67 hg (.inl rfl)); replace Au := aM (Kd.R_after (v := (.slice (some ⟨Ay, 0, none⟩) Aj.length Bj)) (v1 := (.slice (some ⟨Ay, 0, none⟩) Aj.length Bj)) (ok := (fun k_ => some k_ ≠ (.slice (some ad181) Ac.length Br : Value).ownBlock)) Z59 hg (.inl rfl)); replace Ab := aM (blk_grown (g := Bf) (o := .cells #[.int .i64 Ah, .int .i64 Ai, .slice Ba Ae.length Aw] 28 (0, 0)) Z9 hg (Kd.R_ne Aq.out Ab.out (by decide))); replace Aq := aM (hp_); replace HB := aM ((by rw [hw]; exact below_set (HB.out) C7.out : Below w.heap.size w Cn)); clear hg hw hp_; obtain ⟨Cw, Cx, Cy⟩ := bz3 Ab; obtain ⟨Cz, C0, C1⟩ := fz3 Ab; have Cd : 0 ≤ (Aa : Int) := of_decide_eq_true Z3; have Ce : Aa < (Ae.length : Int) := of_decide_eq_true Z3; obtain ⟨ad184, e184, Az⟩ := Kd.at_int Bv.out Aa Cd Ce; cases e184; replace Az := (HB.out.cell (World.block_lt_of_cell? w _ Az)).trans Az; replace Cd := eq_true Cd; replace Ce := eq_true Ce; have Da : 0 ≤ ((rd Ac Aa) : Int) := of_decide_eq_true Z3; have Db : ((rd Ac Aa) : Int) < ((Al.length : Int) : Int) := of_decide_eq_true Z3; obtain ⟨Bk, Bo, Co, Cp, gl21, cl21, HG21⟩ := Kd.R_form Au.out (by omega); (first | cases Co | (injection Co with ea_ en_ ec_; (first | subst ea_ | (injection ea_ with ea_; subst ea_)); subst ec_; clear en_)); have Dc := Aside0.mk Cp; have Dq := Aside0.mk HG21; clear Cp gl21 HG21; obtain ⟨Dd, De⟩ := Kd.R_celln 0 Au.out ((rd Ac Aa) : Int) Da Db; replace Da := eq_true Da; replace Db := eq_true Db; obtain ⟨hy27_, hz27_⟩ := Kd.R_celln 0 Au.out ((rd Ac Aa) : Int) (of_decide_eq_true Z3) (of_decide_eq_true Z3); have Cf := Kd.R_putg Au.out ((rd Ac Aa) : Int) (rd Ae Aa)) | ((with_reducible refine gate_store (t := 3) (p := 44) rfl ?_); refine store_event (t := 3) (p := 44) (v := ?vo_w28) (w1 := (Cn.setCell ⟨Bk, ((rd Ac Aa) : Int).toNat, none⟩ (.int .i64 (rd Ae Aa)))) ?hg ?ho ?hn ?hr ?_; (case ho => rfl); (case hg => rfl); (case hn => rfl); (case hr => first | (go_simp; done) | (go_simp; rfl)); intro Df hw; have hg : Cn.grownBy Df (some Bk) := (by rw [hw]; exact Cf.2); have hp_ : Kd.R (Kd.int .i64) 3 Df w.heap.size (fun k_ => some k_ ≠ (.slice (some ad181) Ac.length Br : Value).ownBlock ∧ some k_ ≠ (.slice (some ⟨Ay, 0, none⟩) Aj.length Bj : Value).ownBlock) (.slice (some ⟨Bk, 0, none⟩) Al.length Bo) B5 := (by rw [hw, Ck.out]; exact Cf.1); clear Cf; replace Bg := aM (Kd.R_after (v := (.slice (some ⟨Bk, 0, none⟩) Al.length Bo)) (v1 := (.slice (some ⟨Bk, 0, none⟩) Al.length Bo)) (ok := (fun k_ => some k_ ≠ (.slice (some ⟨Ay, 0, none⟩) Aj.length Bj : Value).ownBlock)) Z67 hg (.inl rfl)); replace Aq := aM (Kd.R_after (v := (.slice (some ⟨Bk, 0, none⟩) Al.length Bo)) (v1 := (.slice (some ⟨Bk, 0, none⟩) Al.length Bo)) (ok := (fun k_ => some k_ ≠ (.slice (some ad181) Ac.length Br : Value).ownBlock)) Z42 hg (.inl rfl)); replace Ab := aM (blk_grown (g := Bf) (o := .cells #[.int .i64 Ah, .int .i64 Ai, .slice (some ad184) Ae.length Aw] 28 (0, 0)) Z9 hg (Kd.R_ne Au.out Ab.out (by decide))); replace Au := aM (hp_); replace HB := aM ((Z134 : Below w.heap.size w Df)); clear hg hw hp_))
           go_roundg k1
           case measure => have := HK1.out; omega
           case rel => exact ⟨(Bq), (B5), (wrap64 (Aa + 1)), Z7, H', ⟨Z66⟩, ⟨Z60⟩, ⟨Z42⟩, ⟨Z59⟩, ⟨Z9⟩, ⟨Z2⟩⟩
          ·rw [if_neg Cu] at H
           exact absurd H (by simp)
         ·rw [if_neg Ct] at H
          exact absurd H (by simp)
        ·rw [if_neg Cs] at H
         exact absurd H (by simp)
       ·rw [if_neg Cr] at H
        exact absurd H (by simp)
      ·rw [if_neg Cq] at H
       exact absurd H (by simp)
     ·rw [if_neg Cg] at H
      have c14b0 : decide (Aa < (Ac.length : Int)) = false := decide_eq_false Cg; clear Cg
      simp only [Option.some.injEq, Prod.mk.injEq] at H
      obtain ⟨rfl, rfl⟩ := H; obtain ⟨Dr, Ds, Dg⟩ := Kd.R_slice Bg.out; subst Dg
      go_wp2
      go_ret2
      exact ⟨_, _, Z6, Z121, Z122, Z2⟩
  ·rw [if_neg c4] at H
   exact absurd H (by simp)
 ·rw [if_neg c3] at H
  exact absurd H (by simp)
def spec_l12Color.l0 : Nat → Int → List Int → List Int → List Int → Int → Option (List Int)
 | 0, _, _, _, _, _ => none
 | k + 1, x1, x5, x6, x7, x8 => if x8 < (x5.length : Int) then (if 0 ≤ x8 then (if x8 < (x6.length : Int) then (if (rd x6 x8) = x1 then (if x7.length < 17592186044416 then (spec_l12Color.l0 k x1 x5 x6 (x7 ++ [rd x5 x8]) (wrap64 (x8 + 1))) else (none)) else (spec_l12Color.l0 k x1 x5 x6 x7 (wrap64 (x8 + 1)))) else (none)) else (none)) else (some x7)
def spec_l12Color.f (k : Nat) (a0_0 : Int) (a0_1 : Int) (l0_2 : List Int) (a1 : Int) : Option (List Int) := (spec_l12Sizes.f k a0_0 a0_1 l0_2).bind fun bt187 => (spec_l12Color.l0 k a1 bt187.1 bt187.2 (([] : List Int)) 0)
theorem spec_l12Color.calls (k : Nat) (Ai : Int) (Aj : Int) (Ar : Option Addr) (Au : Nat) (Af : List Int) (a1 : Int) (r : List Int) (w : World) (Ay : Kd.C (Kd.int .i64) w Ar Af.length Af) (Az : Af.length ≤ Au) (h : spec_l12Color.f k Ai Aj Af a1 = some r) :
  Calls Try.prog 52 #[.agg #[.int .i64 Ai, .int .i64 Aj, .slice Ar Af.length Au], .int .i64 a1] w fun e w' => ∃ v0_ : Value, e = .returned (v0_) ∧ Kd.R (Kd.int .i64) 3 w' w.heap.size (fun _ => True) v0_ r ∧ Below w.heap.size w w' := by
 have hu28 := Try.underlying28; have Bq := Aside0.mk Ay; have Br := Aside0.mk Az; clear Ay Az; have HB := aM (Below.refl w.heap.size w); have H : ((spec_l12Sizes.f k Ai Aj Af).bind fun Ba => (spec_l12Color.l0 k a1 Ba.1 Ba.2 (([] : List Int)) 0)) = some r := h; clear h; replace H := Option.bind_eq_some_iff.mp H; obtain ⟨⟨Ae, Ac⟩, Cd, H⟩ := H; replace H : (spec_l12Color.l0 k a1 Ae Ac (([] : List Int)) 0) = some r := H; have A3 := Aside0.mk Cd; clear Cd; obtain ⟨Bs, Ak⟩ : ∃ y_ : List Int, y_ = (([] : List Int)) := ⟨_, rfl⟩
 replace H : (spec_l12Color.l0 k a1 Ae Ac Bs 0) = some r := by first | (rw [Ak]; with_reducible exact H) | (have H2_ := (Option.bind_some _ _).symm.trans H; rw [Ak]; with_reducible exact H2_) | (have H2_ := (Option.bind_some _ _).symm.trans H; with_reducible exact H2_) | with_reducible exact H | (rw [Ak]; exact H) | exact H
 have Bb := Aside0.mk Ak; clear Ak; have H' := Aside0.mk H; clear H
 go_enter Try.func52, Try.ntmps52
 go_wp2_with (first | ((with_reducible refine gate_dst (N := 2) rfl ?_); refine bxE 2 #[.int .i64 Ai, .int .i64 Aj, .slice Ar Af.length Au] 28 ?_; intro Bc hg w4 hbox hb; have Ab := aM (hbox); have Ce := gwS hg Z0; have Ad := gwS hg Z0; replace HB := hbS Z0 hb; clear hb hbox hg; obtain ⟨Bd, Bf, Bg⟩ := bz3 Ab; obtain ⟨Bh, Bi, Bj⟩ := fz3 Ab) | ((with_reducible refine gate_callee (f := 47) rfl ?_); refine glE (some 11) Try.func47 #[.agg #[.int .i64 Ai, .int .i64 Aj, .slice Ar Af.length Au]] ?_; (with_reducible refine (spec_l12Sizes.calls k Ai Aj _ _ Af Ae Ac _ ?side1 ?side2 A3.out).mono ?_); (case side1 => exact Z53); (case side2 => exact Br.out); rintro e w6 ⟨Bk, Bl, rfl, Cf, Cg, hb⟩; refine ⟨_, rfl, ?_⟩; have Ap := aM (Kd.R_lower Cf (below_size Z11)); have Aq := aM (Kd.R_lower Cg (below_size Z11)); replace Ab := bkB Ab hb; replace HB := hbS Z11 hb; (try clear hb); (try clear Cf); (try clear Cg)) | ((with_reducible refine gate_dst (N := 14) rfl ?_); refine Kd.R_lit (Kd.int .i64) _ 3 ?hg (N := 14) ?hd (xs := ([] : List Int)) (inner := []) (ok := fun _ => True) (okp := fun _ => True) ?hr ?hp (fun _ hk => hk) trivial (Below.refl _ _) (Nat.le_refl _) (by simp) ?_; (case hd => rfl); (case hg => rfl); (case hr => first | (go_simp; done) | (go_simp; rfl)); (case hp => exact (Reps.none _ _)); intro Ch w7 Bm hb hg_ hnew_; clear hg_ hnew_; (first | rw [← Bb.out] at Bm | (simp only [Int.reduceToNat] at Bm; rw [← Bb.out] at Bm)); have Bt := aM (Kd.R_lower (Kd.R_new' (Kd.R_new' Bm (Kd.R_lt Z68)) (Kd.R_lt Z42)) (below_size Z11)); replace Ap := aM (Kd.R_elder' Z68 (Kd.R_base Bm) hb); replace Aq := aM (Kd.R_elder' Z42 (Kd.R_base Bm) hb); replace Ab := bkB Ab hb; replace HB := hbS Z11 hb; clear hb Bm))
 go_loopg [7, 8] k (fun kq v7 v8 w' => ∃ (Am : List Int) (Aa : Int), v8 = .int .i64 Aa ∧ Aside0 (spec_l12Color.l0 kq a1 Ae Ac Am Aa = some r) ∧ Aside0 (kq ≤ k) ∧ Aside0 (Kd.R (Kd.int .i64) 3 w' w.heap.size (fun k_ => nV k_ Bl ∧ nV k_ v7) Bk Ae) ∧ Aside0 (Kd.R (Kd.int .i64) 3 w' w.heap.size (fun k_ => nV k_ Bk ∧ nV k_ v7) Bl Ac) ∧ Aside0 (Kd.R (Kd.int .i64) 3 w' w.heap.size (fun k_ => nV k_ Bk ∧ nV k_ Bl) v7 Am) ∧ Aside0 (w'.heap[Bc]? = some (.cells #[.int .i64 Ai, .int .i64 Aj, (.slice Ar Af.length Au)] 28 (0, 0))) ∧ Aside0 (Below w.heap.size w w'))
 case atStart => exact ⟨(Bs), (0), Z7, H', ⟨Nat.le_refl _⟩, ⟨Z68⟩, ⟨Z42⟩, ⟨by (with_reducible repeat (first | apply Kd.R_alloc | apply Kd.R_drewN | apply Kd.R_drew)); exact Kd.R_mono Bt.out (fun _ hk => ⟨hk.1.2, hk.2⟩)⟩, ⟨Z9⟩, ⟨Z11⟩⟩
 case round =>
  clear H'; (try clear p2); (try clear c4); (try clear c5); (try clear Bd); (try clear Bf); (try clear Bg); (try clear Bh); (try clear Bi); (try clear Bj); obtain ⟨Am, Aa, rfl, HA, HK1, Ag, Ah, Aw, Ab, HB⟩ := hrel; cases gk with
  | zero => exact absurd HA.out (by simp [spec_l12Color.l0])
  | succ k1 =>
   have H := HA.out; clear HA
   simp only [spec_l12Color.l0] at H
   by_cases c9 : Aa < (Ae.length : Int)
   ·rw [if_pos c9] at H
    have c9b0 : decide (Aa < (Ae.length : Int)) = true := decide_eq_true c9; clear c9
    by_cases B0 : 0 ≤ Aa
    ·rw [if_pos B0] at H
     have c10b0 : decide (0 ≤ Aa) = true := decide_eq_true B0; clear B0
     by_cases B2 : Aa < (Ac.length : Int)
     ·rw [if_pos B2] at H
      have c11b0 : decide (Aa < (Ac.length : Int)) = true := decide_eq_true B2; clear B2
      by_cases Bn : (rd Ac Aa) = a1
      ·rw [if_pos Bn] at H
       have c12b0 : ((rd Ac Aa) == a1) = true := beq_iff_eq.mpr Bn; have c12b1 : ((rd Ac Aa) != a1) = false := bne_eq_false_iff_eq.mpr Bn; clear Bn
       by_cases B4 : Am.length < 17592186044416
       ·rw [if_pos B4] at H
        have LMc13 := Aside0.mk B4; clear B4; obtain ⟨Bu, Al⟩ : ∃ y_ : List Int, y_ = (Am ++ [rd Ae Aa]) := ⟨_, rfl⟩
        replace H : (spec_l12Color.l0 k1 a1 Ae Ac Bu (wrap64 (Aa + 1))) = some r := by first | (rw [Al]; with_reducible exact H) | (have H2_ := (Option.bind_some _ _).symm.trans H; rw [Al]; with_reducible exact H2_) | (have H2_ := (Option.bind_some _ _).symm.trans H; with_reducible exact H2_) | with_reducible exact H | (rw [Al]; exact H) | exact H
        have Bv := Aside0.mk Al; clear Al; have H' := Aside0.mk H; clear H; obtain ⟨Ci, Bw, B6⟩ := Kd.R_slice Ag.out; subst B6; obtain ⟨Cj, Bx, B7⟩ := Kd.R_slice Ah.out; subst B7; have An : 0 ≤ (Aa : Int) := of_decide_eq_true Z3; have Ao : Aa < (Ac.length : Int) := of_decide_eq_true Z3; obtain ⟨ad196, e196, Ax⟩ := Kd.at_int (Kd.R_reads' Ah.out).2.2 Aa An Ao; cases e196; replace An := eq_true An; replace Ao := eq_true Ao; have Bo : 0 ≤ (Aa : Int) := of_decide_eq_true Z3; have Bp : Aa < (Ae.length : Int) := of_decide_eq_true Z3; obtain ⟨ad197, e197, B5⟩ := Kd.at_int (Kd.R_reads' Ag.out).2.2 Aa Bo Bp; cases e197; replace Bo := eq_true Bo; replace Bp := eq_true Bp
        go_wp2_with (first | ((with_reducible refine gate_builtin (b := .append) (xs := #[.tmp 27, .tmp 32]) rfl ?_); at_builtin; refine Kd.R_append (Kd.int .i64) (w0 := w) w.heap.size rfl (.tmp 27) (.tmp 32) 22 3 (.int .i64 0) 8 rfl Try.underlying22 info3 rfl (by decide) (by omega) u7 Am (rd Ae Aa) [.int .i64 (rd Ae Aa)] (fun k_ => some k_ ≠ (.slice (some ad197) Ae.length Bw : Value).ownBlock ∧ some k_ ≠ (.slice (some ad196) Ac.length Bx : Value).ownBlock) (fun _ => False) rfl rfl ?aP (fun _ hk => hk.elim) ?aF ?aO ?aB ?aS ?aL ?_; (case aP => exact rfl); (case aB => exact Z11); (case aF => exact (fun k_ hk => ⟨Kd.fresh' (Kd.R_lt Z21) k_ hk, Kd.fresh' (Kd.R_lt Z47) k_ hk⟩)); (case aO => exact Z124); (case aS => exact (below_size Z11)); (case aL => have := LMc13.out; omega); intro Ck Cr ho hb hg hat; rw [← Bv.out] at ho; replace Ag := aM (Kd.R_after (ok := (fun k_ => some k_ ≠ (.slice (some ad196) Ac.length Bx : Value).ownBlock)) Z21 hg hat); replace Ah := aM (Kd.R_after (ok := (fun k_ => some k_ ≠ (.slice (some ad197) Ae.length Bw : Value).ownBlock)) Z47 hg hat); replace Ab := aM (blk_grown (g := Bc) (o := .cells #[.int .i64 Ai, .int .i64 Aj, .slice Ar Af.length Au] 28 (0, 0)) Z9 hg (Kd.R_ne Aw.out Ab.out (by decide))); replace HB := aM (hb); have Bz := aM (ho); clear Aw; clear ho hb hg hat))
        go_roundg k1
        case measure => have := HK1.out; omega
        case rel => exact ⟨(Bu), (wrap64 (Aa + 1)), Z7, H', ⟨Z66⟩, ⟨Z21⟩, ⟨Z47⟩, ⟨by (with_reducible repeat (first | apply Kd.R_alloc | apply Kd.R_drewN | apply Kd.R_drew)); exact Bz.out⟩, ⟨Z9⟩, ⟨Z11⟩⟩
       ·rw [if_neg B4] at H
        exact absurd H (by simp)
      ·rw [if_neg Bn] at H
       have c12b0 : ((rd Ac Aa) == a1) = false := beq_eq_false_iff_ne.mpr Bn; have c12b1 : ((rd Ac Aa) != a1) = true := bne_iff_ne.mpr Bn; have H' := Aside0.mk H; clear H; obtain ⟨Cl, Cm, Ca⟩ := Kd.R_slice Ag.out; subst Ca; obtain ⟨Cn, Co, Cb⟩ := Kd.R_slice Ah.out; subst Cb; have An : 0 ≤ (Aa : Int) := of_decide_eq_true Z3; have Ao : Aa < (Ac.length : Int) := of_decide_eq_true Z3; obtain ⟨ad196, e196, Ax⟩ := Kd.at_int (Kd.R_reads' Ah.out).2.2 Aa An Ao; cases e196; replace An := eq_true An; replace Ao := eq_true Ao
       go_wp2
       go_roundg k1
       case measure => have := HK1.out; omega
       case rel => exact ⟨(Am), (wrap64 (Aa + 1)), Z7, H', ⟨Z66⟩, ⟨Z21⟩, ⟨Z47⟩, ⟨Z124⟩, ⟨Z9⟩, ⟨Z11⟩⟩
     ·rw [if_neg B2] at H
      exact absurd H (by simp)
    ·rw [if_neg B0] at H
     exact absurd H (by simp)
   ·rw [if_neg c9] at H
    have c9b0 : decide (Aa < (Ae.length : Int)) = false := decide_eq_false c9; clear c9; obtain rfl := Option.some.inj H; obtain ⟨Cp, Cq, Cc⟩ := Kd.R_slice Ag.out; subst Cc
    go_wp2
    go_ret
    exact ⟨_, Z6, by (with_reducible repeat (first | apply Kd.R_alloc | apply Kd.R_drewN | apply Kd.R_drew)); exact Kd.R_mono Aw.out (fun _ hk => trivial), Z11⟩
def spec_l1In.f (a0 : Int) (a1 : Int) (a2 : Int) : Option (Bool) := if a0 ≥ a1 then (some (decide (a0 ≤ a2))) else (some false)
theorem spec_l1In.calls (a0 : Int) (a1 : Int) (a2 : Int) (r : Bool) (w : World) (h : spec_l1In.f a0 a1 a2 = some r) :
  Calls Try.prog 65 #[.int .i64 a0, .int .i64 a1, .int .i64 a2] w fun e w' => e = .returned (.bool r) ∧ Drawn0 w w' := by
 have H : (if a0 ≥ a1 then (some (decide (a0 ≤ a2))) else (some false)) = some r := h; clear h
 by_cases c4 : a0 ≥ a1
 ·rw [if_pos c4] at H
  have c4b0 : decide (a1 ≤ a0) = true := decide_eq_true c4; clear c4; obtain rfl := Option.some.inj H
  go_enter Try.func65, Try.ntmps65
  go_wp2
  go_ret
  exact ⟨Z7, Z23⟩
 ·rw [if_neg c4] at H
  have c4b0 : decide (a1 ≤ a0) = false := decide_eq_false c4; clear c4; obtain rfl := Option.some.inj H
  go_enter Try.func65, Try.ntmps65
  go_wp2
  go_ret
  exact ⟨Z7, Z23⟩
theorem spec_l1In.eq (a b c : Int) : spec_l1In.f a b c = some (rng a b c) := by
 unfold spec_l1In.f rng; by_cases h : b ≤ a <;> simp [h]
def spec_l2Color.f (a0 : Int) : Option (Bool) := (spec_l1In.f a0 0 5).bind fun t201 => (some t201)
theorem spec_l2Color.calls (a0 : Int) (r : Bool) (w : World) (h : spec_l2Color.f a0 = some r) :
  Calls Try.prog 51 #[.int .i64 a0] w fun e w' => e = .returned (.bool r) ∧ Drawn0 w w' := by
 have H : ((spec_l1In.f a0 0 5).bind fun Aa => (some Aa)) = some r := h; clear h; replace H := Option.bind_eq_some_iff.mp H; obtain ⟨Aa, Ab, H⟩ := H; replace H : (some Aa) = some r := H; have A2 := Aside0.mk Ab; clear Ab; obtain rfl := Option.some.inj H
 go_enter Try.func51, Try.ntmps51
 go_wp2_with (first | ((with_reducible refine gate_callee (f := 65) rfl ?_); refine glE (some 4) Try.func65 #[.int .i64 a0, .int .i64 0, .int .i64 5] ?_; (with_reducible refine (spec_l1In.calls a0 0 5 Aa _ A2.out).mono ?_); rintro e w' ⟨rfl, ⟨nd, rfl⟩⟩; refine ⟨_, rfl, ?_⟩))
 go_ret
 exact ⟨Z7, Z23⟩
def spec_l2Side.f (a0 : Int) : Option (Bool) := (spec_l1In.f a0 1 8).bind fun t202 => (some t202)
theorem spec_l2Side.calls (a0 : Int) (r : Bool) (w : World) (h : spec_l2Side.f a0 = some r) :
  Calls Try.prog 76 #[.int .i64 a0] w fun e w' => e = .returned (.bool r) ∧ Drawn0 w w' := by
 have H : ((spec_l1In.f a0 1 8).bind fun Aa => (some Aa)) = some r := h; clear h; replace H := Option.bind_eq_some_iff.mp H; obtain ⟨Aa, Ab, H⟩ := H; replace H : (some Aa) = some r := H; have A2 := Aside0.mk Ab; clear Ab; obtain rfl := Option.some.inj H
 go_enter Try.func76, Try.ntmps76
 go_wp2_with (first | ((with_reducible refine gate_callee (f := 65) rfl ?_); refine glE (some 4) Try.func65 #[.int .i64 a0, .int .i64 1, .int .i64 8] ?_; (with_reducible refine (spec_l1In.calls a0 1 8 Aa _ A2.out).mono ?_); rintro e w' ⟨rfl, ⟨nd, rfl⟩⟩; refine ⟨_, rfl, ?_⟩))
 go_ret
 exact ⟨Z7, Z23⟩
def spec_l2Good.l0 : Nat → Int → Int → Int → List Int → Option (Bool)
 | 0, _, _, _, _ => none
 | k + 1, x3, x204000, x204001, x204002 => if x3 < (x204002.length : Int) then (if 0 ≤ x3 then ((spec_l2Color.f (rd x204002 x3)).bind fun t205 => (if t205 = true then (spec_l2Good.l0 k (wrap64 (x3 + 1)) x204000 x204001 x204002) else (some false))) else (none)) else ((spec_l2Side.f x204000).bind fun t206 => (if t206 = true then ((spec_l2Side.f x204001).bind fun t207 => (if t207 = true then (some ((x204002.length : Int) == (wrap64 (x204000 * x204001)))) else (some false))) else (some false)))
def spec_l2Good.f (k : Nat) (a0_0 : Int) (a0_1 : Int) (l0_2 : List Int) : Option (Bool) := spec_l2Good.l0 k 0 a0_0 a0_1 l0_2
theorem spec_l2Good.calls (k : Nat) (Ae : Int) (Af : Int) (Ak : Option Addr) (Al : Nat) (Aa : List Int) (r : Bool) (w : World) (Am : Kd.C (Kd.int .i64) w Ak Aa.length Aa) (An : Aa.length ≤ Al) (h : spec_l2Good.f k Ae Af Aa = some r) :
  Calls Try.prog 43 #[.agg #[.int .i64 Ae, .int .i64 Af, .slice Ak Aa.length Al]] w fun e w' => e = .returned (.bool r) ∧ Below w.heap.size w w' := by
 have hu28 := Try.underlying28; have Ao := Aside0.mk Am; have B6 := Aside0.mk An; clear Am An; have HB := aM (Below.refl w.heap.size w); have H : (spec_l2Good.l0 k 0 Ae Af Aa) = some r := h; clear h; have H' := Aside0.mk H; clear H
 go_enter Try.func43, Try.ntmps43
 go_wp2_with (first | ((with_reducible refine gate_dst (N := 1) rfl ?_); (try (refine gate_guard (by rfl) ?_; dsimp only)); refine bxE 1 #[.int .i64 Ae, .int .i64 Af, .slice Ak Aa.length Al] 28 ?_; intro Ap hg w2 hbox hb; have Ac := aM (hbox); have B7 := gwS hg Z0; have Ag := gwS hg Z0; replace HB := hbS Z0 hb; clear hb hbox hg))
 go_loopg [3] k (fun kq v3 w' => ∃ (Ab : Int), v3 = .int .i64 Ab ∧ Aside0 (spec_l2Good.l0 kq Ab Ae Af Aa = some r) ∧ Aside0 (kq ≤ k) ∧ Aside0 (w'.heap[Ap]? = some (.cells #[.int .i64 Ae, .int .i64 Af, (.slice Ak Aa.length Al)] 28 (0, 0))) ∧ Aside0 (Below w.heap.size w w'))
 case atStart => exact ⟨(0), Z7, H', ⟨Nat.le_refl _⟩, ⟨Z13⟩, ⟨Z27⟩⟩
 case round =>
  clear H'; (try clear p2); obtain ⟨Ab, rfl, HA, HK1, Ac, HB⟩ := hrel; cases gk with
  | zero => exact absurd HA.out (by simp [spec_l2Good.l0])
  | succ k1 =>
   have H := HA.out; clear HA
   simp only [spec_l2Good.l0] at H
   by_cases c3 : Ab < (Aa.length : Int)
   ·rw [if_pos c3] at H
    have c3b0 : decide (Ab < (Aa.length : Int)) = true := decide_eq_true c3; clear c3
    by_cases c4 : 0 ≤ Ab
    ·rw [if_pos c4] at H
     have c4b0 : decide (0 ≤ Ab) = true := decide_eq_true c4; clear c4; replace H := Option.bind_eq_some_iff.mp H; obtain ⟨Aq, Ca, H⟩ := H; replace H : (if Aq = true then (spec_l2Good.l0 k1 (wrap64 (Ab + 1)) Ae Af Aa) else (some false)) = some r := H; have A5 := Aside0.mk Ca; clear Ca
     by_cases c6 : Aq = true
     ·subst c6
      have H1 : (spec_l2Good.l0 k1 (wrap64 (Ab + 1)) Ae Af Aa) = some r := by rw [if_pos rfl] at H; exact H
      clear H; have H := H1; clear H1; have H' := Aside0.mk H; clear H; obtain ⟨Br, Bs, Bt⟩ := bz3 Ac; obtain ⟨Bu, Bv, Bw⟩ := fz3 Ac; have Ah : 0 ≤ (Ab : Int) := of_decide_eq_true Z3; have Ai : Ab < (Aa.length : Int) := of_decide_eq_true Z3; obtain ⟨ad204, e204, Ad⟩ := Kd.at_int Ao.out Ab Ah Ai; cases e204; replace Ad := (HB.out.cell (World.block_lt_of_cell? w _ Ad)).trans Ad; replace Ah := eq_true Ah; replace Ai := eq_true Ai
      go_wp2_with (first | ((with_reducible refine gate_callee (f := 51) rfl ?_); refine glE (some 16) Try.func51 #[.int .i64 (rd Aa Ab)] ?_; (with_reducible refine (spec_l2Color.calls (rd Aa Ab) true _ A5.out).mono ?_); rintro e w' ⟨rfl, ⟨nd, rfl⟩⟩; refine ⟨_, rfl, ?_⟩))
      go_roundg k1
      case measure => have := HK1.out; omega
      case rel => exact ⟨(wrap64 (Ab + 1)), Z7, H', ⟨Z66⟩, ⟨Z13⟩, ⟨Z27⟩⟩
     ·replace c6 := Bool.eq_false_iff.mpr c6
      subst c6
      have H1 : (some false) = some r := by rw [if_neg (show ¬ (false = true) by decide)] at H; exact H
      clear H; have H := H1; clear H1; obtain rfl := Option.some.inj H; obtain ⟨Bx, Bz, B0⟩ := bz3 Ac; obtain ⟨B2, B4, B5⟩ := fz3 Ac; have Ah : 0 ≤ (Ab : Int) := of_decide_eq_true Z3; have Ai : Ab < (Aa.length : Int) := of_decide_eq_true Z3; obtain ⟨ad204, e204, Ad⟩ := Kd.at_int Ao.out Ab Ah Ai; cases e204; replace Ad := (HB.out.cell (World.block_lt_of_cell? w _ Ad)).trans Ad; replace Ah := eq_true Ah; replace Ai := eq_true Ai
      go_wp2_with (first | ((with_reducible refine gate_callee (f := 51) rfl ?_); refine glE (some 16) Try.func51 #[.int .i64 (rd Aa Ab)] ?_; (with_reducible refine (spec_l2Color.calls (rd Aa Ab) false _ A5.out).mono ?_); rintro e w' ⟨rfl, ⟨nd, rfl⟩⟩; refine ⟨_, rfl, ?_⟩))
      go_ret
      exact ⟨Z6, Z27⟩
    ·rw [if_neg c4] at H
     exact absurd H (by simp)
   ·rw [if_neg c3] at H
    have c3b0 : decide (Ab < (Aa.length : Int)) = false := decide_eq_false c3; clear c3; replace H := Option.bind_eq_some_iff.mp H; obtain ⟨Ar, Cb, H⟩ := H; replace H : (if Ar = true then ((spec_l2Side.f Af).bind fun Aj => (if Aj = true then (some ((Aa.length : Int) == (wrap64 (Ae * Af)))) else (some false))) else (some false)) = some r := H; have A9 := Aside0.mk Cb; clear Cb
    by_cases Aw : Ar = true
    ·subst Aw
     have H1 : ((spec_l2Side.f Af).bind fun Aj => (if Aj = true then (some ((Aa.length : Int) == (wrap64 (Ae * Af)))) else (some false))) = some r := by rw [if_pos rfl] at H; exact H
     clear H; have H := H1; clear H1; replace H := Option.bind_eq_some_iff.mp H; obtain ⟨Aj, Au, H⟩ := H; replace H : (if Aj = true then (some ((Aa.length : Int) == (wrap64 (Ae * Af)))) else (some false)) = some r := H; have Cc := Aside0.mk Au; clear Au
     by_cases Ax : Aj = true
     ·subst Ax
      have H1 : (some ((Aa.length : Int) == (wrap64 (Ae * Af)))) = some r := by rw [if_pos rfl] at H; exact H
      clear H; have H := H1; clear H1; obtain rfl := Option.some.inj H; obtain ⟨Ay, Az, Ba⟩ := bz3 Ac; obtain ⟨Bb, Bc, Bd⟩ := fz3 Ac
      go_wp2_with (first | ((with_reducible refine gate_callee (f := 76) rfl ?_); refine glE (some 20) Try.func76 #[.int .i64 Ae] ?_; (with_reducible refine (spec_l2Side.calls Ae true _ A9.out).mono ?_); rintro e w' ⟨rfl, ⟨nd, rfl⟩⟩; refine ⟨_, rfl, ?_⟩) | (go_at_call 76; (with_reducible refine (spec_l2Side.calls Af true _ Cc.out).mono ?_); rintro e w' ⟨rfl, ⟨nd, rfl⟩⟩))
      go_ret
      exact ⟨Z6, Z27⟩
     ·replace Ax := Bool.eq_false_iff.mpr Ax
      subst Ax
      have H1 : (some false) = some r := by rw [if_neg (show ¬ (false = true) by decide)] at H; exact H
      clear H; have H := H1; clear H1; obtain rfl := Option.some.inj H; obtain ⟨Bf, Bg, Bh⟩ := bz3 Ac; obtain ⟨Bi, Bj, Bk⟩ := fz3 Ac
      go_wp2_with (first | ((with_reducible refine gate_callee (f := 76) rfl ?_); refine glE (some 20) Try.func76 #[.int .i64 Ae] ?_; (with_reducible refine (spec_l2Side.calls Ae true _ A9.out).mono ?_); rintro e w' ⟨rfl, ⟨nd, rfl⟩⟩; refine ⟨_, rfl, ?_⟩) | (go_at_call 76; (with_reducible refine (spec_l2Side.calls Af false _ Cc.out).mono ?_); rintro e w' ⟨rfl, ⟨nd, rfl⟩⟩))
      go_ret
      exact ⟨Z6, Z27⟩
    ·replace Aw := Bool.eq_false_iff.mpr Aw
     subst Aw
     have H1 : (some false) = some r := by rw [if_neg (show ¬ (false = true) by decide)] at H; exact H
     clear H; have H := H1; clear H1; obtain rfl := Option.some.inj H; obtain ⟨Bl, Bm, Bn⟩ := bz3 Ac; obtain ⟨Bo, Bp, Bq⟩ := fz3 Ac
     go_wp2_with (first | ((with_reducible refine gate_callee (f := 76) rfl ?_); refine glE (some 20) Try.func76 #[.int .i64 Ae] ?_; (with_reducible refine (spec_l2Side.calls Ae false _ A9.out).mono ?_); rintro e w' ⟨rfl, ⟨nd, rfl⟩⟩; refine ⟨_, rfl, ?_⟩))
     go_ret
     exact ⟨Z6, Z27⟩
def spec_l12Lots.l0 : Nat → List Int → Int → Option (Bool)
 | 0, _, _ => none
 | k + 1, x0, x3 => if x3 < (x0.length : Int) then (if 0 ≤ x3 then ((spec_l1In.f (rd x0 x3) 1 100).bind fun t209 => (if t209 = true then (spec_l12Lots.l0 k x0 (wrap64 (x3 + 1))) else (some false))) else (none)) else ((spec_l1In.f (x0.length : Int) 1 6).bind fun t210 => (some t210))
def spec_l12Lots.f (k : Nat) (l0 : List Int) : Option (Bool) := spec_l12Lots.l0 k l0 0
theorem spec_l12Lots.calls (k : Nat) (A0 : Option Addr) (c0 : Nat) (l0 : List Int) (r : Bool) (w : World) (Ag : Kd.C (Kd.int .i64) w A0 l0.length l0) (Ah : l0.length ≤ c0) (h : spec_l12Lots.f k l0 = some r) :
  Calls Try.prog 80 #[.slice A0 l0.length c0] w fun e w' => e = .returned (.bool r) ∧ Drawn0 w w' := by
 have Ai := Aside0.mk Ag; have Al := Aside0.mk Ah; clear Ag Ah; have H : (spec_l12Lots.l0 k l0 0) = some r := h; clear h; have H' := Aside0.mk H; clear H
 go_enter Try.func80, Try.ntmps80
 go_wp2
 go_loopg [3] k (fun kq v3 w' => ∃ (Aa : Int), v3 = .int .i64 Aa ∧ Aside0 (spec_l12Lots.l0 kq l0 Aa = some r) ∧ Aside0 (kq ≤ k) ∧ Drawn0 w w')
 case atStart => exact ⟨(0), Z7, H', ⟨Nat.le_refl _⟩, Z23⟩
 case round =>
  clear H'; obtain ⟨Aa, rfl, HA, HK1, ⟨m1, rfl⟩⟩ := hrel; cases gk with
  | zero => exact absurd HA.out (by simp [spec_l12Lots.l0])
  | succ k1 =>
   have H := HA.out; clear HA
   simp only [spec_l12Lots.l0] at H
   by_cases c2 : Aa < (l0.length : Int)
   ·rw [if_pos c2] at H
    have c2b0 : decide (Aa < (l0.length : Int)) = true := decide_eq_true c2; clear c2
    by_cases c3 : 0 ≤ Aa
    ·rw [if_pos c3] at H
     have c3b0 : decide (0 ≤ Aa) = true := decide_eq_true c3; clear c3; replace H := Option.bind_eq_some_iff.mp H; obtain ⟨Ae, Aj, H⟩ := H; replace H : (if Ae = true then (spec_l12Lots.l0 k1 l0 (wrap64 (Aa + 1))) else (some false)) = some r := H; have A4 := Aside0.mk Aj; clear Aj
     by_cases c5 : Ae = true
     ·subst c5
      have H1 : (spec_l12Lots.l0 k1 l0 (wrap64 (Aa + 1))) = some r := by rw [if_pos rfl] at H; exact H
      clear H; have H := H1; clear H1; have H' := Aside0.mk H; clear H; have Ab : 0 ≤ (Aa : Int) := of_decide_eq_true Z3; have Ac : Aa < (l0.length : Int) := of_decide_eq_true Z3; obtain ⟨ad208, e208, Ad⟩ := Kd.at_int Ai.out Aa Ab Ac; cases e208; replace Ab := eq_true Ab; replace Ac := eq_true Ac
      go_wp2_with (first | ((with_reducible refine gate_callee (f := 65) rfl ?_); refine glE (some 14) Try.func65 #[.int .i64 (rd l0 Aa), .int .i64 1, .int .i64 100] ?_; (with_reducible refine (spec_l1In.calls (rd l0 Aa) 1 100 true _ A4.out).mono ?_); rintro e w' ⟨rfl, ⟨nd, rfl⟩⟩; refine ⟨_, rfl, ?_⟩))
      go_roundg k1
      case measure => have := HK1.out; omega
      case rel => exact ⟨(wrap64 (Aa + 1)), Z7, H', ⟨Z66⟩, Z23⟩
     ·replace c5 := Bool.eq_false_iff.mpr c5
      subst c5
      have H1 : (some false) = some r := by rw [if_neg (show ¬ (false = true) by decide)] at H; exact H
      clear H; have H := H1; clear H1; obtain rfl := Option.some.inj H; have Ab : 0 ≤ (Aa : Int) := of_decide_eq_true Z3; have Ac : Aa < (l0.length : Int) := of_decide_eq_true Z3; obtain ⟨ad208, e208, Ad⟩ := Kd.at_int Ai.out Aa Ab Ac; cases e208; replace Ab := eq_true Ab; replace Ac := eq_true Ac
      go_wp2_with (first | ((with_reducible refine gate_callee (f := 65) rfl ?_); refine glE (some 14) Try.func65 #[.int .i64 (rd l0 Aa), .int .i64 1, .int .i64 100] ?_; (with_reducible refine (spec_l1In.calls (rd l0 Aa) 1 100 false _ A4.out).mono ?_); rintro e w' ⟨rfl, ⟨nd, rfl⟩⟩; refine ⟨_, rfl, ?_⟩))
      go_ret
      exact ⟨Z7, Z23⟩
    ·rw [if_neg c3] at H
     exact absurd H (by simp)
   ·rw [if_neg c2] at H
    have c2b0 : decide (Aa < (l0.length : Int)) = false := decide_eq_false c2; clear c2; replace H := Option.bind_eq_some_iff.mp H; obtain ⟨Af, Ak, H⟩ := H; replace H : (some Af) = some r := H; have A6 := Aside0.mk Ak; clear Ak; obtain rfl := Option.some.inj H
    go_wp2_with (first | ((with_reducible refine gate_callee (f := 65) rfl ?_); refine glE (some 18) Try.func65 #[.int .i64 (l0.length : Int), .int .i64 1, .int .i64 6] ?_; (with_reducible refine (spec_l1In.calls (l0.length : Int) 1 6 Af _ A6.out).mono ?_); rintro e w' ⟨rfl, ⟨nd, rfl⟩⟩; refine ⟨_, rfl, ?_⟩))
    go_ret
    exact ⟨Z7, Z23⟩
def spec_l12Asked.f (k : Nat) (a0_0 : Int) (a0_1 : Int) (l0_2 : List Int) (a1 : Int) (l2 : List Int) : Option (Bool) := (spec_l2Good.f k a0_0 a0_1 l0_2).bind fun t212 => (if t212 = true then ((spec_l2Color.f a1).bind fun t213 => (if t213 = true then ((spec_l12Lots.f k l2).bind fun t214 => (some t214)) else (some false))) else (some false))
theorem spec_l12Asked.calls (k : Nat) (Ad : Int) (Ae : Int) (Ag : Option Addr) (Ah : Nat) (Ab : List Int) (a1 : Int) (A2 : Option Addr) (c2 : Nat) (l2 : List Int) (r : Bool) (w : World) (Am : Kd.C (Kd.int .i64) w Ag Ab.length Ab) (An : Ab.length ≤ Ah) (Bm : Kd.C (Kd.int .i64) w A2 l2.length l2) (Bn : l2.length ≤ c2) (h : spec_l12Asked.f k Ad Ae Ab a1 l2 = some r) :
  Calls Try.prog 55 #[.agg #[.int .i64 Ad, .int .i64 Ae, .slice Ag Ab.length Ah], .int .i64 a1, .slice A2 l2.length c2] w fun e w' => e = .returned (.bool r) ∧ Below w.heap.size w w' := by
 have hu28 := Try.underlying28; have Aj := Aside0.mk Am; have Ak := Aside0.mk An; clear Am An; have Br := Aside0.mk Bm; have Bs := Aside0.mk Bn; clear Bm Bn; have HB := aM (Below.refl w.heap.size w); have H : ((spec_l2Good.f k Ad Ae Ab).bind fun Al => (if Al = true then ((spec_l2Color.f a1).bind fun Ai => (if Ai = true then ((spec_l12Lots.f k l2).bind fun Af => (some Af)) else (some false))) else (some false))) = some r := h; clear h; replace H := Option.bind_eq_some_iff.mp H; obtain ⟨Al, Bo, H⟩ := H; replace H : (if Al = true then ((spec_l2Color.f a1).bind fun Ai => (if Ai = true then ((spec_l12Lots.f k l2).bind fun Af => (some Af)) else (some false))) else (some false)) = some r := H; have A4 := Aside0.mk Bo; clear Bo
 by_cases c5 : Al = true
 ·subst c5
  have H1 : ((spec_l2Color.f a1).bind fun Ai => (if Ai = true then ((spec_l12Lots.f k l2).bind fun Af => (some Af)) else (some false))) = some r := by rw [if_pos rfl] at H; exact H
  clear H; have H := H1; clear H1; replace H := Option.bind_eq_some_iff.mp H; obtain ⟨Ai, Bp, H⟩ := H; replace H : (if Ai = true then ((spec_l12Lots.f k l2).bind fun Af => (some Af)) else (some false)) = some r := H; have A6 := Aside0.mk Bp; clear Bp
  by_cases c7 : Ai = true
  ·subst c7
   have H1 : ((spec_l12Lots.f k l2).bind fun Af => (some Af)) = some r := by rw [if_pos rfl] at H; exact H
   clear H; have H := H1; clear H1; replace H := Option.bind_eq_some_iff.mp H; obtain ⟨Af, Bq, H⟩ := H; replace H : (some Af) = some r := H; have A8 := Aside0.mk Bq; clear Bq; obtain rfl := Option.some.inj H
   go_enter Try.func55, Try.ntmps55
   go_wp2_with (first | ((with_reducible refine gate_dst (N := 3) rfl ?_); refine bxE 3 #[.int .i64 Ad, .int .i64 Ae, .slice Ag Ab.length Ah] 28 ?_; intro Ao hg w9 hbox hb; have Aa := aM (hbox); have Ap := gwS hg Z0; have Ac := gwS hg Z0; replace HB := hbS Z0 hb; clear hb hbox hg; obtain ⟨Aq, Ar, Au⟩ := bz3 Aa; obtain ⟨Aw, Ax, Ay⟩ := fz3 Aa) | ((with_reducible refine gate_callee (f := 43) rfl ?_); refine glE (some 8) Try.func43 #[.agg #[.int .i64 Ad, .int .i64 Ae, .slice Ag Ab.length Ah]] ?_; (with_reducible refine (spec_l2Good.calls k Ad Ae _ _ Ab true _ ?side1 ?side2 A4.out).mono ?_); (case side1 => exact Z26); (case side2 => exact Ak.out); rintro e Bt ⟨rfl, hb⟩; refine ⟨_, rfl, ?_⟩; replace Aa := bkB Aa hb; replace HB := hbS Z1 hb; (try clear hb)) | (go_at_call 51; (with_reducible refine (spec_l2Color.calls a1 true _ A6.out).mono ?_); rintro e w' ⟨rfl, ⟨nd, rfl⟩⟩) | (go_at_call 80; (with_reducible refine (spec_l12Lots.calls k _ _ l2 Af _ ?side1 ?side2 A8.out).mono ?_); (case side1 => repeat (first | exact (Kd.C_below Br.out Z1) | (with_reducible refine Kd.C_alloc ?_ _) | (with_reducible refine Kd.C_drewN ?_ _) | (with_reducible refine Kd.C_drew ?_))); (case side2 => exact Bs.out); rintro e w' ⟨rfl, ⟨nd, rfl⟩⟩))
   go_ret
   exact ⟨Z6, Z1⟩
  ·replace c7 := Bool.eq_false_iff.mpr c7
   subst c7
   have H1 : (some false) = some r := by rw [if_neg (show ¬ (false = true) by decide)] at H; exact H
   clear H; have H := H1; clear H1; obtain rfl := Option.some.inj H
   go_enter Try.func55, Try.ntmps55
   go_wp2_with (first | ((with_reducible refine gate_dst (N := 3) rfl ?_); refine bxE 3 #[.int .i64 Ad, .int .i64 Ae, .slice Ag Ab.length Ah] 28 ?_; intro Ao hg Bu hbox hb; have Aa := aM (hbox); have Ap := gwS hg Z0; have Ac := gwS hg Z0; replace HB := hbS Z0 hb; clear hb hbox hg; obtain ⟨Az, Ba, Bb⟩ := bz3 Aa; obtain ⟨Bc, Bd, Bf⟩ := fz3 Aa) | ((with_reducible refine gate_callee (f := 43) rfl ?_); refine glE (some 8) Try.func43 #[.agg #[.int .i64 Ad, .int .i64 Ae, .slice Ag Ab.length Ah]] ?_; (with_reducible refine (spec_l2Good.calls k Ad Ae _ _ Ab true _ ?side1 ?side2 A4.out).mono ?_); (case side1 => exact Z26); (case side2 => exact Ak.out); rintro e Bv ⟨rfl, hb⟩; refine ⟨_, rfl, ?_⟩; replace Aa := bkB Aa hb; replace HB := hbS Z1 hb; (try clear hb)) | (go_at_call 51; (with_reducible refine (spec_l2Color.calls a1 false _ A6.out).mono ?_); rintro e w' ⟨rfl, ⟨nd, rfl⟩⟩))
   go_ret
   exact ⟨Z6, Z1⟩
 ·replace c5 := Bool.eq_false_iff.mpr c5
  subst c5
  have H1 : (some false) = some r := by rw [if_neg (show ¬ (false = true) by decide)] at H; exact H
  clear H; have H := H1; clear H1; obtain rfl := Option.some.inj H
  go_enter Try.func55, Try.ntmps55
  go_wp2_with (first | ((with_reducible refine gate_dst (N := 3) rfl ?_); refine bxE 3 #[.int .i64 Ad, .int .i64 Ae, .slice Ag Ab.length Ah] 28 ?_; intro Ao hg Bw hbox hb; have Aa := aM (hbox); have Ap := gwS hg Z0; have Ac := gwS hg Z0; replace HB := hbS Z0 hb; clear hb hbox hg; obtain ⟨Bg, Bh, Bi⟩ := bz3 Aa; obtain ⟨Bj, Bk, Bl⟩ := fz3 Aa) | ((with_reducible refine gate_callee (f := 43) rfl ?_); refine glE (some 8) Try.func43 #[.agg #[.int .i64 Ad, .int .i64 Ae, .slice Ag Ab.length Ah]] ?_; (with_reducible refine (spec_l2Good.calls k Ad Ae _ _ Ab false _ ?side1 ?side2 A4.out).mono ?_); (case side1 => exact Z26); (case side2 => exact Ak.out); rintro e Bx ⟨rfl, hb⟩; refine ⟨_, rfl, ?_⟩; replace Aa := bkB Aa hb; replace HB := hbS Z1 hb; (try clear hb)))
  go_ret
  exact ⟨Z6, Z1⟩
end Go.Proofs.Ytaadbpibmlnncaa.H
