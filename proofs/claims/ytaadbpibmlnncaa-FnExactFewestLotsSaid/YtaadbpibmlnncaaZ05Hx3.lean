-- by wip/pack.py of this repo
import Derived.Test.YtaadbpibmlnncaaZ05Hx0
import Derived.Test.YtaadbpibmlnncaaZ05Hx2
import Derived.Test.YtaadbpibmlnncaaZ05WGuard
import Derived.Test.YtaadbpibmlnncaaZ05WLast
import Derived.Test.YtaadbpibmlnncaaZ05WMore
import Derived.Test.YtaadbpibmlnncaaZ05WWords
import Derived.Test.YtaadbpibmlnncaaZ05Short
namespace Go.Proofs.Ytaadbpibmlnncaa.H
open Go.RowKit Go.Proofs.YtaadbpibmlnncaaW.PrintWords Go.Proofs.YtaadbpibmlnncaaW.PrintLast Go.Proofs.YtaadbpibmlnncaaW.PrintMore
attribute [local go_sem] max2_int min2_int max_two min_two max_three min_three max_four min_four
set_option maxHeartbeats 8000000
set_option maxRecDepth 100000
set_option linter.unusedVariables false
set_option linter.unusedSimpArgs false
def spec_l12Sizes.l0 : Nat → List Int → List Int → List Int → Int → Int → Int → List Int → Option (List Int × List Int)
 | 0, _, _, _, _, _, _, _ => none
 | k + 1, x4, x6, x7, x8, x166000, x166001, x166002 => if x8 < (x4.length : Int) then (if 0 ≤ x8 then (if 0 ≤ (rd x4 x8) then (if (rd x4 x8) < (x6.length : Int) then (if x8 < (x166002.length : Int) then (if (rd x4 x8) < (x7.length : Int) then (spec_l12Sizes.l0 k x4 (x6.set ((rd x4 x8) : Int).toNat (wrap64 ((rd x6 (rd x4 x8)) + 1))) (x7.set ((rd x4 x8) : Int).toNat (rd x166002 x8)) (wrap64 (x8 + 1)) x166000 x166001 x166002) else (none)) else (none)) else (none)) else (none)) else (none)) else (some (x6, x7))
def spec_l12Sizes.f (k : Nat) (a0_0 : Int) (a0_1 : Int) (l0_2 : List Int) : Option (List Int × List Int) := (spec_l12Areas.f k a0_0 a0_1 l0_2).bind fun bt166 => (if 0 ≤ bt166.2 then (if (bt166.2 : Int).toNat ≤ 35184372088832 then (spec_l12Sizes.l0 k bt166.1 (List.replicate (bt166.2 : Int).toNat 0) (List.replicate (bt166.2 : Int).toNat 0) 0 a0_0 a0_1 l0_2) else (none)) else (none))
theorem spec_l12Sizes.calls (k : Nat) (Ah : Int) (Ai : Int) (Az : Option Addr) (Av : Nat) (Ae : List Int) (r1 : List Int) (r2 : List Int) (w : World) (Bs : Kd.C (Kd.int .i64) w Az Ae.length Ae) (Bt : Ae.length ≤ Av) (h : spec_l12Sizes.f k Ah Ai Ae = some (r1, r2)) :
  Calls Try.prog 47 #[.agg #[.int .i64 Ah, .int .i64 Ai, .slice Az Ae.length Av]] w fun e w' => ∃ v0_ v1_ : Value, e = .returned (.tuple #[v0_, v1_]) ∧ Kd.R (Kd.int .i64) 3 w' w.heap.size (fun k_ => nV k_ v1_) v0_ r1 ∧ Kd.R (Kd.int .i64) 3 w' w.heap.size (fun k_ => nV k_ v0_) v1_ r2 ∧ Below w.heap.size w w' := by
 have hu28 := Try.underlying28; have Bu := Aside0.mk Bs; have Cg := Aside0.mk Bt; clear Bs Bt; have HB := aM (Below.refl w.heap.size w); have H : ((spec_l12Areas.f k Ah Ai Ae).bind fun Ba => (if 0 ≤ Ba.2 then (if (Ba.2 : Int).toNat ≤ 35184372088832 then (spec_l12Sizes.l0 k Ba.1 (List.replicate (Ba.2 : Int).toNat 0) (List.replicate (Ba.2 : Int).toNat 0) 0 Ah Ai Ae) else (none)) else (none))) = some (r1, r2) := h; clear h; replace H := Option.bind_eq_some_iff.mp H; obtain ⟨⟨Ac, Ag⟩, Dg, H⟩ := H; replace H : (if 0 ≤ Ag then (if (Ag : Int).toNat ≤ 35184372088832 then (spec_l12Sizes.l0 k Ac (List.replicate (Ag : Int).toNat 0) (List.replicate (Ag : Int).toNat 0) 0 Ah Ai Ae) else (none)) else (none)) = some (r1, r2) := H; have A2 := Aside0.mk Dg; clear Dg
 by_cases c3 : 0 ≤ Ag
 ·rw [if_pos c3] at H
  have c3b0 := eq_true c3; have c3b1 : decide (0 ≤ Ag) = true := decide_eq_true c3; clear c3
  by_cases c4 : (Ag : Int).toNat ≤ 35184372088832
  ·rw [if_pos c4] at H
   have c4b0 := eq_true c4; have c4b1 : decide ((Ag : Int).toNat ≤ 35184372088832) = true := decide_eq_true c4; clear c4; obtain ⟨Bm, Bb⟩ : ∃ y_ : List Int, y_ = (List.replicate (Ag : Int).toNat 0) := ⟨_, rfl⟩
   replace H : (spec_l12Sizes.l0 k Ac Bm (List.replicate (Ag : Int).toNat 0) 0 Ah Ai Ae) = some (r1, r2) := by first | (rw [Bb]; with_reducible exact H) | (have H2_ := (Option.bind_some _ _).symm.trans H; rw [Bb]; with_reducible exact H2_) | (have H2_ := (Option.bind_some _ _).symm.trans H; with_reducible exact H2_) | with_reducible exact H | (rw [Bb]; exact H) | exact H
   have Bk := Aside0.mk Bb; clear Bb; obtain ⟨Bo, Bc⟩ : ∃ y_ : List Int, y_ = (List.replicate (Ag : Int).toNat 0) := ⟨_, rfl⟩
   replace H : (spec_l12Sizes.l0 k Ac Bm Bo 0 Ah Ai Ae) = some (r1, r2) := by first | (rw [Bc]; with_reducible exact H) | (have H2_ := (Option.bind_some _ _).symm.trans H; rw [Bc]; with_reducible exact H2_) | (have H2_ := (Option.bind_some _ _).symm.trans H; with_reducible exact H2_) | with_reducible exact H | (rw [Bc]; exact H) | exact H
   have Bl := Aside0.mk Bc; clear Bc; have H' := Aside0.mk H; clear H
   go_enter Try.func47, Try.ntmps47
   try go_wp2_with (first | ((with_reducible refine gate_dst (N := 1) rfl ?_); refine bxE 1 #[.int .i64 Ah, .int .i64 Ai, .slice Az Ae.length Av] 28 ?_; intro Bd hg w5 hbox hb; have Ab := aM (hbox); have Dh := gwS hg Z0; have Af := gwS hg Z0; replace HB := hbS Z0 hb; clear hb hbox hg; obtain ⟨Bv, Bw, Bx⟩ := bz3 Ab; obtain ⟨Bz, B0, B2⟩ := fz3 Ab) | ((with_reducible refine gate_callee (f := 44) rfl ?_); refine glE (some 12) Try.func44 #[.agg #[.int .i64 Ah, .int .i64 Ai, .slice Az Ae.length Av]] ?_; (with_reducible refine (spec_l12Areas.calls k Ah Ai _ _ Ae Ac Ag _ ?side1 ?side2 A2.out).mono ?_); (case side1 => exact Z66); (case side2 => exact Cg.out); rintro e w7 ⟨Aw, rfl, Di, hb⟩; refine ⟨_, rfl, ?_⟩; have Ad := aM (Kd.R_lower Di (below_size Z2)); replace Ab := bkB Ab hb; replace HB := hbS Z2 hb; (try clear hb); (try clear Di)))
   replace Ad := aM (Kd.R_drew Ad.out); replace Ab := aM (blk_drew Ab.out); replace HB := aM (below_drew1 HB.out); refine start_ (n := 6) (S := fun w' => True) (ds := []) #[false, false, false, false, false, false] Z35 rfl rfl trivial (fun hHeld => ?_)
   generalize w7.drew = w8 at Ad Ab HB hHeld ⊢
   refine puK 0 15 #[true, false, false, false, false, false] rfl rfl ?_; refine puK 2 17 #[true, false, true, false, false, false] rfl rfl ?_; refine join_ (σ := Value × Value) 1 #[true, true, true, true, true, false] (fun s_ => [(16, s_.1), (18, s_.2), (6, s_.1)]) (fun s_ w' => (Kd.R (Kd.int .i64) 3 w' w.heap.size (fun k_ => some k_ ≠ (s_.1 : Value).ownBlock ∧ some k_ ≠ (s_.2 : Value).ownBlock) Aw Ac) ∧ (Kd.R (Kd.int .i64) 3 w' w.heap.size (fun k_ => nV k_ Aw ∧ some k_ ≠ (s_.2 : Value).ownBlock) s_.1 Bm) ∧ (Kd.R (Kd.int .i64) 3 w' w.heap.size (fun k_ => nV k_ Aw ∧ some k_ ≠ (s_.1 : Value).ownBlock) s_.2 Bo) ∧ (w'.heap[Bd]? = some (.cells #[.int .i64 Ah, .int .i64 Ai, .slice Az Ae.length Av] 28 (0, 0))) ∧ (Below w.heap.size w w')) ?_ ?_
   rotate_left
   ·intro hCont
    refine two_ (i := 1) (j := 3) (Ni := some 16) (Nj := some 18) #[true, true, true, false, false, false] #[true, false, true, true, false, false] rfl rfl rfl rfl Z35 (by decide) (by decide) (fun K hK => ?_) (fun K hK => ?_)
    ·skip
     refine Kd.R_make_step (Kd.int .i64) _ 3 (by rfl) (N := 16) rfl 22 _ _ rfl Ag rfl rfl Try.underlying22 (.int .i64 0) 8 info3 rfl (by decide) (by omega) 0 (ok := fun _ => True) (okp := fun _ => True) rfl (fun _ hk => hk) trivial (of_decide_eq_true Z3) (Nat.le_trans (Nat.mul_le_mul_right _ (of_decide_eq_true Z3 : Ag.toNat ≤ 35184372088832)) (by omega)) (Below.refl _ _) (Nat.le_refl _) ?_; intro Ar w9 Am hb hg_ hnew_; clear hg_ hnew_
     (first | rw [← Bk.out] at Am | (simp only [Int.reduceToNat] at Am; rw [← Bk.out] at Am))
     have An := aM (Kd.R_lower (Kd.R_new' Am (Kd.R_lt Z14)) (below_size Z2)); replace Ad := aM (Kd.R_elder' Z14 (Kd.R_base Am) hb); replace Ab := bkB Ab hb; replace HB := hbS Z2 hb; clear hb Am; refine hK.out _ _ trivial (fun hHeld => ?_); clear hK K; refine noR 16 ?_; refine puK 4 6 #[true, true, true, false, true, false] rfl rfl ?_; refine one_ (i := 3) (N := some 18) #[true, true, true, true, true, false] rfl rfl Z35 (by decide) (fun K hK => ?_); refine Kd.R_make_step (Kd.int .i64) _ 3 (by rfl) (N := 18) rfl 22 _ _ rfl Ag rfl rfl Try.underlying22 (.int .i64 0) 8 info3 rfl (by decide) (by omega) 0 (ok := fun _ => True) (okp := fun _ => True) rfl (fun _ hk => hk) trivial (of_decide_eq_true Z3) (Nat.le_trans (Nat.mul_le_mul_right _ (of_decide_eq_true Z3 : Ag.toNat ≤ 35184372088832)) (by omega)) (Below.refl _ _) (Nat.le_refl _) ?_; intro Ap Dj Ak hb hg_ hnew_; clear hg_ hnew_
     (first | rw [← Bl.out] at Ak | (simp only [Int.reduceToNat] at Ak; rw [← Bl.out] at Ak))
     have Ao := aM (Kd.R_lower (Kd.R_new' (Kd.R_new' Ak (Kd.R_lt Z14)) (Kd.R_lt Z41)) (below_size Z2)); replace Ad := aM (Kd.R_elder' Z14 (Kd.R_base Ak) hb); replace An := aM (Kd.R_elder' Z41 (Kd.R_base Ak) hb); replace Ab := bkB Ab hb; replace HB := hbS Z2 hb; clear hb Ak; refine hK.out _ _ trivial (fun hHeld => ?_); clear hK K; refine noR 18 ?_
     exact norm_ Z61 (hCont (Ar, Ap) _ ⟨Z86, Z48, Z49, Z7, Z2⟩)
    ·skip
     refine Kd.R_make_step (Kd.int .i64) _ 3 (by rfl) (N := 18) rfl 22 _ _ rfl Ag rfl rfl Try.underlying22 (.int .i64 0) 8 info3 rfl (by decide) (by omega) 0 (ok := fun _ => True) (okp := fun _ => True) rfl (fun _ hk => hk) trivial (of_decide_eq_true Z3) (Nat.le_trans (Nat.mul_le_mul_right _ (of_decide_eq_true Z3 : Ag.toNat ≤ 35184372088832)) (by omega)) (Below.refl _ _) (Nat.le_refl _) ?_; intro Ap w9 Am hb hg_ hnew_; clear hg_ hnew_
     (first | rw [← Bl.out] at Am | (simp only [Int.reduceToNat] at Am; rw [← Bl.out] at Am))
     have Ao := aM (Kd.R_lower (Kd.R_new' Am (Kd.R_lt Z14)) (below_size Z2)); replace Ad := aM (Kd.R_elder' Z14 (Kd.R_base Am) hb); replace Ab := bkB Ab hb; replace HB := hbS Z2 hb; clear hb Am; refine hK.out _ _ trivial (fun hHeld => ?_); clear hK K; refine noR 18 ?_; refine one_ (i := 1) (N := some 16) #[true, true, true, true, false, false] rfl rfl Z35 (by decide) (fun K hK => ?_); refine Kd.R_make_step (Kd.int .i64) _ 3 (by rfl) (N := 16) rfl 22 _ _ rfl Ag rfl rfl Try.underlying22 (.int .i64 0) 8 info3 rfl (by decide) (by omega) 0 (ok := fun _ => True) (okp := fun _ => True) rfl (fun _ hk => hk) trivial (of_decide_eq_true Z3) (Nat.le_trans (Nat.mul_le_mul_right _ (of_decide_eq_true Z3 : Ag.toNat ≤ 35184372088832)) (by omega)) (Below.refl _ _) (Nat.le_refl _) ?_; intro Ar Dj Ak hb hg_ hnew_; clear hg_ hnew_
     (first | rw [← Bk.out] at Ak | (simp only [Int.reduceToNat] at Ak; rw [← Bk.out] at Ak))
     have An := aM (Kd.R_lower (Kd.R_new' (Kd.R_new' Ak (Kd.R_lt Z14)) (Kd.R_lt Z29)) (below_size Z2)); replace Ad := aM (Kd.R_elder' Z14 (Kd.R_base Ak) hb); replace Ao := aM (Kd.R_elder' Z29 (Kd.R_base Ak) hb); replace Ab := bkB Ab hb; replace HB := hbS Z2 hb; clear hb Ak; refine hK.out _ _ trivial (fun hHeld => ?_); clear hK K; refine noR 16 ?_; refine puK 4 6 #[true, true, true, true, true, false] rfl rfl ?_
     exact norm_ Z61 (hCont (Ar, Ap) _ ⟨Z87, Z48, Z49, Z7, Z2⟩)
   rintro ⟨Ar, Ap⟩ Ch ⟨h0_, h1_, h2_, h3_, h4_⟩; have n0_ : Aside0 (Kd.R (Kd.int .i64) 3 Ch w.heap.size (fun k_ => nV k_ Ar ∧ nV k_ Ap) Aw Ac) := ⟨h0_⟩; have n1_ : Aside0 (Kd.R (Kd.int .i64) 3 Ch w.heap.size (fun k_ => nV k_ Aw ∧ nV k_ Ap) Ar Bm) := ⟨h1_⟩; have n2_ : Aside0 (Kd.R (Kd.int .i64) 3 Ch w.heap.size (fun k_ => nV k_ Aw ∧ nV k_ Ar) Ap Bo) := ⟨h2_⟩; have n3_ : Aside0 (Ch.heap[Bd]? = some (.cells #[.int .i64 Ah, .int .i64 Ai, .slice Az Ae.length Av] 28 (0, 0))) := ⟨h3_⟩; have n4_ : Aside0 (Below w.heap.size w Ch) := ⟨h4_⟩; clear Ad; clear Ab; clear HB; clear h0_ h1_ h2_ h3_ h4_; have Ad := n0_; have An := n1_; have Ao := n2_; have Ab := n3_; have HB := n4_; clear n0_ n1_ n2_ n3_ n4_; have hHeld := trivial; refine norm_ (a' := ?_) ?_ ?_
   rotate_left
   ·simp only [putAll, Act.put, List.setIfInBounds_toArray, List.set_cons_zero, List.set_cons_succ]
    rfl
   refine puK 5 7 #[true, true, true, true, true, true] rfl rfl ?_; refine done_ Z35 ?_
   try go_wp2
   go_loopg [8] k (fun kq v8 w' => ∃ (Aj : List Int) (Al : List Int) (Aa : Int), v8 = .int .i64 Aa ∧ Aside0 (spec_l12Sizes.l0 kq Ac Aj Al Aa Ah Ai Ae = some (r1, r2)) ∧ Aside0 (kq ≤ k) ∧ Aside0 (Kd.R (Kd.int .i64) 3 w' w.heap.size (fun k_ => nV k_ Ar ∧ nV k_ Ap) Aw Ac) ∧ Aside0 (Kd.R (Kd.int .i64) 3 w' w.heap.size (fun k_ => nV k_ Aw ∧ nV k_ Ap) Ar Aj) ∧ Aside0 (Kd.R (Kd.int .i64) 3 w' w.heap.size (fun k_ => nV k_ Aw ∧ nV k_ Ar) Ap Al) ∧ Aside0 (w'.heap[Bd]? = some (.cells #[.int .i64 Ah, .int .i64 Ai, (.slice Az Ae.length Av)] 28 (0, 0))) ∧ Aside0 (Below w.heap.size w w'))
   case atStart => exact ⟨(Bm), (Bo), (0), Z5, H', ⟨Nat.le_refl _⟩, ⟨Z14⟩, ⟨Z41⟩, ⟨Z29⟩, ⟨Z7⟩, ⟨Z2⟩⟩
   case round =>
    clear H'; (try clear p2); (try clear c3); (try clear c3b0); (try clear c3b1); (try clear c4); (try clear c4b0); (try clear c4b1); (try clear Bv); (try clear Bw); (try clear Bx); (try clear Bz); (try clear B0); (try clear B2); obtain ⟨Aj, Al, Aa, rfl, HA, HK1, Bf, Aq, Au, Ab, HB⟩ := hrel; cases gk with
    | zero => exact absurd HA.out (by simp [spec_l12Sizes.l0])
    | succ k1 =>
     have H := HA.out; clear HA
     simp only [spec_l12Sizes.l0] at H
     by_cases Cf : Aa < (Ac.length : Int)
     ·rw [if_pos Cf] at H
      have c14b0 : decide (Aa < (Ac.length : Int)) = true := decide_eq_true Cf; clear Cf
      by_cases Cp : 0 ≤ Aa
      ·rw [if_pos Cp] at H
       have c15b0 : decide (0 ≤ Aa) = true := decide_eq_true Cp; clear Cp
       by_cases Cq : 0 ≤ (rd Ac Aa)
       ·rw [if_pos Cq] at H
        have c16b0 : decide (0 ≤ (rd Ac Aa)) = true := decide_eq_true Cq; clear Cq
        by_cases Cr : (rd Ac Aa) < (Aj.length : Int)
        ·rw [if_pos Cr] at H
         have c17b0 : decide ((rd Ac Aa) < (Aj.length : Int)) = true := decide_eq_true Cr; clear Cr; obtain ⟨Bp, Bg⟩ : ∃ y_ : List Int, y_ = (Aj.set ((rd Ac Aa) : Int).toNat (wrap64 ((rd Aj (rd Ac Aa)) + 1))) := ⟨_, rfl⟩
         replace H : (if Aa < (Ae.length : Int) then (if (rd Ac Aa) < (Al.length : Int) then (spec_l12Sizes.l0 k1 Ac Bp (Al.set ((rd Ac Aa) : Int).toNat (rd Ae Aa)) (wrap64 (Aa + 1)) Ah Ai Ae) else (none)) else (none)) = some (r1, r2) := by first | (rw [Bg]; with_reducible exact H) | (have H2_ := (Option.bind_some _ _).symm.trans H; rw [Bg]; with_reducible exact H2_) | (have H2_ := (Option.bind_some _ _).symm.trans H; with_reducible exact H2_) | with_reducible exact H | (rw [Bg]; exact H) | exact H
         have Ci := Aside0.mk Bg; clear Bg
         by_cases Cs : Aa < (Ae.length : Int)
         ·rw [if_pos Cs] at H
          have c19b0 : decide (Aa < (Ae.length : Int)) = true := decide_eq_true Cs; clear Cs
          by_cases Ct : (rd Ac Aa) < (Al.length : Int)
          ·rw [if_pos Ct] at H
           have c20b0 : decide ((rd Ac Aa) < (Al.length : Int)) = true := decide_eq_true Ct; clear Ct; obtain ⟨B4, Bh⟩ : ∃ y_ : List Int, y_ = (Al.set ((rd Ac Aa) : Int).toNat (rd Ae Aa)) := ⟨_, rfl⟩
           replace H : (spec_l12Sizes.l0 k1 Ac Bp B4 (wrap64 (Aa + 1)) Ah Ai Ae) = some (r1, r2) := by first | (rw [Bh]; with_reducible exact H) | (have H2_ := (Option.bind_some _ _).symm.trans H; rw [Bh]; with_reducible exact H2_) | (have H2_ := (Option.bind_some _ _).symm.trans H; with_reducible exact H2_) | with_reducible exact H | (rw [Bh]; exact H) | exact H
           have Cj := Aside0.mk Bh; clear Bh; have H' := Aside0.mk H; clear H; obtain ⟨Dk, Bq, C1⟩ := Kd.R_slice Bf.out; subst C1; have B5 : 0 ≤ (Aa : Int) := of_decide_eq_true Z3; have B6 : Aa < (Ac.length : Int) := of_decide_eq_true Z3; obtain ⟨ad176, e176, Cu⟩ := Kd.at_int (Kd.R_reads' Bf.out).2.2 Aa B5 B6; cases e176; replace B5 := eq_true B5; replace B6 := eq_true B6; obtain ⟨Dl, Bi, C3⟩ := Kd.R_slice Aq.out; subst C3; have B7 : 0 ≤ ((rd Ac Aa) : Int) := of_decide_eq_true Z3; have Ca : (rd Ac Aa) < (Aj.length : Int) := of_decide_eq_true Z3; obtain ⟨ad177, e177, Br⟩ := Kd.at_int (Kd.R_reads' Aq.out).2.2 (rd Ac Aa) B7 Ca; cases e177; replace B7 := eq_true B7; replace Ca := eq_true Ca; have C4 : 0 ≤ ((rd Ac Aa) : Int) := of_decide_eq_true Z3; have C5 : ((rd Ac Aa) : Int) < ((Aj.length : Int) : Int) := of_decide_eq_true Z3; obtain ⟨Ax, Dm, Ck, Cl, gl18, cl18, HG18⟩ := Kd.R_form Aq.out (by omega)
           (first | cases Ck | (injection Ck with ea_ en_ ec_; (first | subst ea_ | (injection ea_ with ea_; subst ea_)); subst ec_; clear en_))
           have C6 := Aside0.mk Cl; have Dn := Aside0.mk HG18; clear Cl gl18 HG18
           (first | simp only [add_plain] at Br | skip)
           obtain ⟨C7, C8⟩ := Kd.R_celln 0 Aq.out ((rd Ac Aa) : Int) C4 C5; replace C4 := eq_true C4; replace C5 := eq_true C5; have Cb := Kd.R_putg Aq.out ((rd Ac Aa) : Int) (wrap64 ((rd Aj (rd Ac Aa)) + 1))
           go_wp2_with (first | ((with_reducible refine gate_store (t := 3) (p := 36) rfl ?_); refine store_event (t := 3) (p := 36) (v := ?vo_w25) (w1 := (wr.setCell ⟨Ax, ((rd Ac Aa) : Int).toNat, none⟩ (.int .i64 (wrap64 ((rd Aj (rd Ac Aa)) + 1))))) ?hg ?ho ?hn ?hr ?_; (case ho => rfl); (case hg => rfl); (case hn => rfl); (case hr => first | (go_simp; done) | (go_simp; rfl)); intro Cm hw; have hg : wr.grownBy Cm (some Ax) := (by rw [hw]; exact Cb.2); have hp_ : Kd.R (Kd.int .i64) 3 Cm w.heap.size (fun k_ => some k_ ≠ (.slice (some ad176) Ac.length Bq : Value).ownBlock ∧ nV k_ Ap) (.slice (some ⟨Ax, 0, none⟩) Aj.length Bi) Bp := (by rw [hw, Ci.out]; exact Cb.1); clear Cb; replace Bf := aM (Kd.R_after (v := (.slice (some ⟨Ax, 0, none⟩) Aj.length Bi)) (v1 := (.slice (some ⟨Ax, 0, none⟩) Aj.length Bi)) (ok := (fun k_ => nV k_ Ap)) Z58 hg (.inl rfl)); replace Au := aM (Kd.R_after (v := (.slice (some ⟨Ax, 0, none⟩) Aj.length Bi)) (v1 := (.slice (some ⟨Ax, 0, none⟩) Aj.length Bi)) (ok := (fun k_ => some k_ ≠ (.slice (some ad176) Ac.length Bq : Value).ownBlock)) Z55 hg (.inl rfl)); replace Ab := aM (blk_grown (g := Bd) (o := .cells #[.int .i64 Ah, .int .i64 Ai, .slice Az Ae.length Av] 28 (0, 0)) Z7 hg (Kd.R_ne Aq.out Ab.out (by decide))); replace Aq := aM (hp_); replace HB := aM ((by rw [hw]; exact below_set (HB.out) C6.out : Below w.heap.size w Cm)); clear hg hw hp_; obtain ⟨Cv, Cw, Cx⟩ := bz3 Ab; obtain ⟨Cy, Cz, C0⟩ := fz3 Ab; have Cc : 0 ≤ (Aa : Int) := of_decide_eq_true Z3; have Cd : Aa < (Ae.length : Int) := of_decide_eq_true Z3; obtain ⟨ad179, e179, Ay⟩ := Kd.at_int Bu.out Aa Cc Cd; cases e179; replace Ay := (HB.out.cell (World.block_lt_of_cell? w _ Ay)).trans Ay; replace Cc := eq_true Cc; replace Cd := eq_true Cd; have C9 : 0 ≤ ((rd Ac Aa) : Int) := of_decide_eq_true Z3; have Da : ((rd Ac Aa) : Int) < ((Al.length : Int) : Int) := of_decide_eq_true Z3; obtain ⟨Bj, Bn, Cn, Co, gl21, cl21, HG21⟩ := Kd.R_form Au.out (by omega); (first | cases Cn | (injection Cn with ea_ en_ ec_; (first | subst ea_ | (injection ea_ with ea_; subst ea_)); subst ec_; clear en_)); have Db := Aside0.mk Co; have Dp := Aside0.mk HG21; clear Co gl21 HG21; obtain ⟨Dc, Dd⟩ := Kd.R_celln 0 Au.out ((rd Ac Aa) : Int) C9 Da; replace C9 := eq_true C9; replace Da := eq_true Da; obtain ⟨hy27_, hz27_⟩ := Kd.R_celln 0 Au.out ((rd Ac Aa) : Int) (of_decide_eq_true Z3) (of_decide_eq_true Z3); have Ce := Kd.R_putg Au.out ((rd Ac Aa) : Int) (rd Ae Aa)) | ((with_reducible refine gate_store (t := 3) (p := 44) rfl ?_); refine store_event (t := 3) (p := 44) (v := ?vo_w28) (w1 := (Cm.setCell ⟨Bj, ((rd Ac Aa) : Int).toNat, none⟩ (.int .i64 (rd Ae Aa)))) ?hg ?ho ?hn ?hr ?_; (case ho => rfl); (case hg => rfl); (case hn => rfl); (case hr => first | (go_simp; done) | (go_simp; rfl)); intro De hw; have hg : Cm.grownBy De (some Bj) := (by rw [hw]; exact Ce.2); have hp_ : Kd.R (Kd.int .i64) 3 De w.heap.size (fun k_ => some k_ ≠ (.slice (some ad176) Ac.length Bq : Value).ownBlock ∧ some k_ ≠ (.slice (some ⟨Ax, 0, none⟩) Aj.length Bi : Value).ownBlock) (.slice (some ⟨Bj, 0, none⟩) Al.length Bn) B4 := (by rw [hw, Cj.out]; exact Ce.1); clear Ce; replace Bf := aM (Kd.R_after (v := (.slice (some ⟨Bj, 0, none⟩) Al.length Bn)) (v1 := (.slice (some ⟨Bj, 0, none⟩) Al.length Bn)) (ok := (fun k_ => some k_ ≠ (.slice (some ⟨Ax, 0, none⟩) Aj.length Bi : Value).ownBlock)) Z58 hg (.inl rfl)); replace Aq := aM (Kd.R_after (v := (.slice (some ⟨Bj, 0, none⟩) Al.length Bn)) (v1 := (.slice (some ⟨Bj, 0, none⟩) Al.length Bn)) (ok := (fun k_ => some k_ ≠ (.slice (some ad176) Ac.length Bq : Value).ownBlock)) Z42 hg (.inl rfl)); replace Ab := aM (blk_grown (g := Bd) (o := .cells #[.int .i64 Ah, .int .i64 Ai, .slice (some ad179) Ae.length Av] 28 (0, 0)) Z7 hg (Kd.R_ne Au.out Ab.out (by decide))); replace Au := aM (hp_); replace HB := aM ((Z111 : Below w.heap.size w De)); clear hg hw hp_))
           go_roundg k1
           case measure => have := HK1.out; omega
           case rel => exact ⟨(Bp), (B4), (wrap64 (Aa + 1)), Z5, H', ⟨Z62⟩, ⟨by (with_reducible repeat (first | apply Kd.R_alloc | apply Kd.R_drewN | apply Kd.R_drew)); exact Bf.out⟩, ⟨Z42⟩, ⟨Z55⟩, ⟨Z7⟩, ⟨Z2⟩⟩
          ·rw [if_neg Ct] at H
           exact absurd H (by simp)
         ·rw [if_neg Cs] at H
          exact absurd H (by simp)
        ·rw [if_neg Cr] at H
         exact absurd H (by simp)
       ·rw [if_neg Cq] at H
        exact absurd H (by simp)
      ·rw [if_neg Cp] at H
       exact absurd H (by simp)
     ·rw [if_neg Cf] at H
      have c14b0 : decide (Aa < (Ac.length : Int)) = false := decide_eq_false Cf; clear Cf
      simp only [Option.some.injEq, Prod.mk.injEq] at H
      obtain ⟨rfl, rfl⟩ := H; obtain ⟨Dq, Dr, Df⟩ := Kd.R_slice Bf.out; subst Df
      go_wp2
      go_ret2
      exact ⟨_, _, Z4, Z51, Z101, Z2⟩
  ·rw [if_neg c4] at H
   exact absurd H (by simp)
 ·rw [if_neg c3] at H
  exact absurd H (by simp)
def spec_l12Color.l0 : Nat → Int → List Int → List Int → List Int → Int → Option (List Int)
 | 0, _, _, _, _, _ => none
 | k + 1, x1, x5, x6, x7, x8 => if x8 < (x5.length : Int) then (if 0 ≤ x8 then (if x8 < (x6.length : Int) then (if (rd x6 x8) = x1 then (if x7.length < 17592186044416 then (spec_l12Color.l0 k x1 x5 x6 (x7 ++ [rd x5 x8]) (wrap64 (x8 + 1))) else (none)) else (spec_l12Color.l0 k x1 x5 x6 x7 (wrap64 (x8 + 1)))) else (none)) else (none)) else (some x7)
def spec_l12Color.f (k : Nat) (a0_0 : Int) (a0_1 : Int) (l0_2 : List Int) (a1 : Int) : Option (List Int) := (spec_l12Sizes.f k a0_0 a0_1 l0_2).bind fun bt182 => (spec_l12Color.l0 k a1 bt182.1 bt182.2 (([] : List Int)) 0)
theorem spec_l12Color.calls (k : Nat) (Ai : Int) (Aj : Int) (Ar : Option Addr) (Au : Nat) (Af : List Int) (a1 : Int) (r : List Int) (w : World) (Ax : Kd.C (Kd.int .i64) w Ar Af.length Af) (Ay : Af.length ≤ Au) (h : spec_l12Color.f k Ai Aj Af a1 = some r) :
  Calls Try.prog 52 #[.agg #[.int .i64 Ai, .int .i64 Aj, .slice Ar Af.length Au], .int .i64 a1] w fun e w' => ∃ v0_ : Value, e = .returned (v0_) ∧ Kd.R (Kd.int .i64) 3 w' w.heap.size (fun _ => True) v0_ r ∧ Below w.heap.size w w' := by
 have hu28 := Try.underlying28; have Bp := Aside0.mk Ax; have Bq := Aside0.mk Ay; clear Ax Ay; have HB := aM (Below.refl w.heap.size w); have H : ((spec_l12Sizes.f k Ai Aj Af).bind fun Az => (spec_l12Color.l0 k a1 Az.1 Az.2 (([] : List Int)) 0)) = some r := h; clear h; replace H := Option.bind_eq_some_iff.mp H; obtain ⟨⟨Ae, Ac⟩, Cc, H⟩ := H; replace H : (spec_l12Color.l0 k a1 Ae Ac (([] : List Int)) 0) = some r := H; have A3 := Aside0.mk Cc; clear Cc; obtain ⟨Br, Ak⟩ : ∃ y_ : List Int, y_ = (([] : List Int)) := ⟨_, rfl⟩
 replace H : (spec_l12Color.l0 k a1 Ae Ac Br 0) = some r := by first | (rw [Ak]; with_reducible exact H) | (have H2_ := (Option.bind_some _ _).symm.trans H; rw [Ak]; with_reducible exact H2_) | (have H2_ := (Option.bind_some _ _).symm.trans H; with_reducible exact H2_) | with_reducible exact H | (rw [Ak]; exact H) | exact H
 have Ba := Aside0.mk Ak; clear Ak; have H' := Aside0.mk H; clear H
 go_enter Try.func52, Try.ntmps52
 go_wp2_with (first | ((with_reducible refine gate_dst (N := 2) rfl ?_); refine bxE 2 #[.int .i64 Ai, .int .i64 Aj, .slice Ar Af.length Au] 28 ?_; intro Bb hg w4 hbox hb; have Ab := aM (hbox); have Cd := gwS hg Z0; have Ad := gwS hg Z0; replace HB := hbS Z0 hb; clear hb hbox hg; obtain ⟨Bc, Bd, Bf⟩ := bz3 Ab; obtain ⟨Bg, Bh, Bi⟩ := fz3 Ab) | ((with_reducible refine gate_callee (f := 47) rfl ?_); refine glE (some 11) Try.func47 #[.agg #[.int .i64 Ai, .int .i64 Aj, .slice Ar Af.length Au]] ?_; (with_reducible refine (spec_l12Sizes.calls k Ai Aj _ _ Af Ae Ac _ ?side1 ?side2 A3.out).mono ?_); (case side1 => exact Z52); (case side2 => exact Bq.out); rintro e w6 ⟨Bj, Bk, rfl, Ce, Cf, hb⟩; refine ⟨_, rfl, ?_⟩; have Ap := aM (Kd.R_lower Ce (below_size Z11)); have Aq := aM (Kd.R_lower Cf (below_size Z11)); replace Ab := bkB Ab hb; replace HB := hbS Z11 hb; (try clear hb); (try clear Ce); (try clear Cf)) | ((with_reducible refine gate_dst (N := 14) rfl ?_); refine Kd.R_lit (Kd.int .i64) _ 3 ?hg (N := 14) ?hd (xs := ([] : List Int)) (inner := []) (ok := fun _ => True) (okp := fun _ => True) ?hr ?hp (fun _ hk => hk) trivial (Below.refl _ _) (Nat.le_refl _) (by simp) ?_; (case hd => rfl); (case hg => rfl); (case hr => first | (go_simp; done) | (go_simp; rfl)); (case hp => exact (Reps.none _ _)); intro Cg w7 Bl hb hg_ hnew_; clear hg_ hnew_; (first | rw [← Ba.out] at Bl | (simp only [Int.reduceToNat] at Bl; rw [← Ba.out] at Bl)); have Bs := aM (Kd.R_lower (Kd.R_new' (Kd.R_new' Bl (Kd.R_lt Z43)) (Kd.R_lt Z42)) (below_size Z11)); replace Ap := aM (Kd.R_elder' Z43 (Kd.R_base Bl) hb); replace Aq := aM (Kd.R_elder' Z42 (Kd.R_base Bl) hb); replace Ab := bkB Ab hb; replace HB := hbS Z11 hb; clear hb Bl))
 go_loopg [7, 8] k (fun kq v7 v8 w' => ∃ (Am : List Int) (Aa : Int), v8 = .int .i64 Aa ∧ Aside0 (spec_l12Color.l0 kq a1 Ae Ac Am Aa = some r) ∧ Aside0 (kq ≤ k) ∧ Aside0 (Kd.R (Kd.int .i64) 3 w' w.heap.size (fun k_ => nV k_ Bk ∧ nV k_ v7) Bj Ae) ∧ Aside0 (Kd.R (Kd.int .i64) 3 w' w.heap.size (fun k_ => nV k_ Bj ∧ nV k_ v7) Bk Ac) ∧ Aside0 (Kd.R (Kd.int .i64) 3 w' w.heap.size (fun k_ => nV k_ Bj ∧ nV k_ Bk) v7 Am) ∧ Aside0 (w'.heap[Bb]? = some (.cells #[.int .i64 Ai, .int .i64 Aj, (.slice Ar Af.length Au)] 28 (0, 0))) ∧ Aside0 (Below w.heap.size w w'))
 case atStart => exact ⟨(Br), (0), Z5, H', ⟨Nat.le_refl _⟩, ⟨Z43⟩, ⟨Z42⟩, ⟨by (with_reducible repeat (first | apply Kd.R_alloc | apply Kd.R_drewN | apply Kd.R_drew)); exact Kd.R_mono Bs.out (fun _ hk => ⟨hk.1.2, hk.2⟩)⟩, ⟨Z7⟩, ⟨Z11⟩⟩
 case round =>
  clear H'; (try clear p2); (try clear c4); (try clear c5); (try clear Bc); (try clear Bd); (try clear Bf); (try clear Bg); (try clear Bh); (try clear Bi); obtain ⟨Am, Aa, rfl, HA, HK1, Ag, Ah, Av, Ab, HB⟩ := hrel; cases gk with
  | zero => exact absurd HA.out (by simp [spec_l12Color.l0])
  | succ k1 =>
   have H := HA.out; clear HA
   simp only [spec_l12Color.l0] at H
   by_cases c9 : Aa < (Ae.length : Int)
   ·rw [if_pos c9] at H
    have c9b0 : decide (Aa < (Ae.length : Int)) = true := decide_eq_true c9; clear c9
    by_cases Bz : 0 ≤ Aa
    ·rw [if_pos Bz] at H
     have c10b0 : decide (0 ≤ Aa) = true := decide_eq_true Bz; clear Bz
     by_cases B0 : Aa < (Ac.length : Int)
     ·rw [if_pos B0] at H
      have c11b0 : decide (Aa < (Ac.length : Int)) = true := decide_eq_true B0; clear B0
      by_cases Bm : (rd Ac Aa) = a1
      ·rw [if_pos Bm] at H
       have c12b0 : ((rd Ac Aa) == a1) = true := beq_iff_eq.mpr Bm; have c12b1 : ((rd Ac Aa) != a1) = false := bne_eq_false_iff_eq.mpr Bm; clear Bm
       by_cases B2 : Am.length < 17592186044416
       ·rw [if_pos B2] at H
        have LMc13 := Aside0.mk B2; clear B2; obtain ⟨Bt, Al⟩ : ∃ y_ : List Int, y_ = (Am ++ [rd Ae Aa]) := ⟨_, rfl⟩
        replace H : (spec_l12Color.l0 k1 a1 Ae Ac Bt (wrap64 (Aa + 1))) = some r := by first | (rw [Al]; with_reducible exact H) | (have H2_ := (Option.bind_some _ _).symm.trans H; rw [Al]; with_reducible exact H2_) | (have H2_ := (Option.bind_some _ _).symm.trans H; with_reducible exact H2_) | with_reducible exact H | (rw [Al]; exact H) | exact H
        have Bu := Aside0.mk Al; clear Al; have H' := Aside0.mk H; clear H; obtain ⟨Ch, Bv, B5⟩ := Kd.R_slice Ag.out; subst B5; obtain ⟨Ci, Bw, B6⟩ := Kd.R_slice Ah.out; subst B6; have An : 0 ≤ (Aa : Int) := of_decide_eq_true Z3; have Ao : Aa < (Ac.length : Int) := of_decide_eq_true Z3; obtain ⟨ad191, e191, Aw⟩ := Kd.at_int (Kd.R_reads' Ah.out).2.2 Aa An Ao; cases e191; replace An := eq_true An; replace Ao := eq_true Ao; have Bn : 0 ≤ (Aa : Int) := of_decide_eq_true Z3; have Bo : Aa < (Ae.length : Int) := of_decide_eq_true Z3; obtain ⟨ad192, e192, B4⟩ := Kd.at_int (Kd.R_reads' Ag.out).2.2 Aa Bn Bo; cases e192; replace Bn := eq_true Bn; replace Bo := eq_true Bo
        go_wp2_with (first | ((with_reducible refine gate_builtin (b := .append) (xs := #[.tmp 27, .tmp 32]) rfl ?_); at_builtin; refine Kd.R_append (Kd.int .i64) (w0 := w) w.heap.size rfl (.tmp 27) (.tmp 32) 22 3 (.int .i64 0) 8 rfl Try.underlying22 info3 rfl (by decide) (by omega) u7 Am (rd Ae Aa) [.int .i64 (rd Ae Aa)] (fun k_ => some k_ ≠ (.slice (some ad192) Ae.length Bv : Value).ownBlock ∧ some k_ ≠ (.slice (some ad191) Ac.length Bw : Value).ownBlock) (fun _ => False) rfl rfl ?aP (fun _ hk => hk.elim) ?aF ?aO ?aB ?aS ?aL ?_; (case aP => exact rfl); (case aB => exact Z11); (case aF => exact (fun k_ hk => ⟨Kd.fresh' (Kd.R_lt Z28) k_ hk, Kd.fresh' (Kd.R_lt Z46) k_ hk⟩)); (case aO => exact Z104); (case aS => exact (below_size Z11)); (case aL => have := LMc13.out; omega); intro Cj Cq ho hb hg hat; rw [← Bu.out] at ho; replace Ag := aM (Kd.R_after (ok := (fun k_ => some k_ ≠ (.slice (some ad191) Ac.length Bw : Value).ownBlock)) Z28 hg hat); replace Ah := aM (Kd.R_after (ok := (fun k_ => some k_ ≠ (.slice (some ad192) Ae.length Bv : Value).ownBlock)) Z46 hg hat); replace Ab := aM (blk_grown (g := Bb) (o := .cells #[.int .i64 Ai, .int .i64 Aj, .slice Ar Af.length Au] 28 (0, 0)) Z7 hg (Kd.R_ne Av.out Ab.out (by decide))); replace HB := aM (hb); have Bx := aM (ho); clear Av; clear ho hb hg hat))
        go_roundg k1
        case measure => have := HK1.out; omega
        case rel => exact ⟨(Bt), (wrap64 (Aa + 1)), Z5, H', ⟨Z62⟩, ⟨Z28⟩, ⟨Z46⟩, ⟨by (with_reducible repeat (first | apply Kd.R_alloc | apply Kd.R_drewN | apply Kd.R_drew)); exact Bx.out⟩, ⟨Z7⟩, ⟨Z11⟩⟩
       ·rw [if_neg B2] at H
        exact absurd H (by simp)
      ·rw [if_neg Bm] at H
       have c12b0 : ((rd Ac Aa) == a1) = false := beq_eq_false_iff_ne.mpr Bm; have c12b1 : ((rd Ac Aa) != a1) = true := bne_iff_ne.mpr Bm; have H' := Aside0.mk H; clear H; obtain ⟨Ck, Cl, B7⟩ := Kd.R_slice Ag.out; subst B7; obtain ⟨Cm, Cn, Ca⟩ := Kd.R_slice Ah.out; subst Ca; have An : 0 ≤ (Aa : Int) := of_decide_eq_true Z3; have Ao : Aa < (Ac.length : Int) := of_decide_eq_true Z3; obtain ⟨ad191, e191, Aw⟩ := Kd.at_int (Kd.R_reads' Ah.out).2.2 Aa An Ao; cases e191; replace An := eq_true An; replace Ao := eq_true Ao
       go_wp2
       go_roundg k1
       case measure => have := HK1.out; omega
       case rel => exact ⟨(Am), (wrap64 (Aa + 1)), Z5, H', ⟨Z62⟩, ⟨Z28⟩, ⟨Z46⟩, ⟨Z104⟩, ⟨Z7⟩, ⟨Z11⟩⟩
     ·rw [if_neg B0] at H
      exact absurd H (by simp)
    ·rw [if_neg Bz] at H
     exact absurd H (by simp)
   ·rw [if_neg c9] at H
    have c9b0 : decide (Aa < (Ae.length : Int)) = false := decide_eq_false c9; clear c9; obtain rfl := Option.some.inj H; obtain ⟨Co, Cp, Cb⟩ := Kd.R_slice Ag.out; subst Cb
    go_wp2
    go_ret
    exact ⟨_, Z4, by (with_reducible repeat (first | apply Kd.R_alloc | apply Kd.R_drewN | apply Kd.R_drew)); exact Kd.R_mono Av.out (fun _ hk => trivial), Z11⟩
def spec_l1In.f (a0 : Int) (a1 : Int) (a2 : Int) : Option (Bool) := if a0 ≥ a1 then (some (decide (a0 ≤ a2))) else (some false)
theorem spec_l1In.calls (a0 : Int) (a1 : Int) (a2 : Int) (r : Bool) (w : World) (h : spec_l1In.f a0 a1 a2 = some r) :
  Calls Try.prog 65 #[.int .i64 a0, .int .i64 a1, .int .i64 a2] w fun e w' => e = .returned (.bool r) ∧ Drawn0 w w' := by
 have H : (if a0 ≥ a1 then (some (decide (a0 ≤ a2))) else (some false)) = some r := h; clear h
 by_cases c4 : a0 ≥ a1
 ·rw [if_pos c4] at H
  have c4b0 : decide (a1 ≤ a0) = true := decide_eq_true c4; clear c4; obtain rfl := Option.some.inj H
  go_enter Try.func65, Try.ntmps65
  go_wp2
  go_ret
  exact ⟨Z5, Z23⟩
 ·rw [if_neg c4] at H
  have c4b0 : decide (a1 ≤ a0) = false := decide_eq_false c4; clear c4; obtain rfl := Option.some.inj H
  go_enter Try.func65, Try.ntmps65
  go_wp2
  go_ret
  exact ⟨Z5, Z23⟩
theorem spec_l1In.eq (a b c : Int) : spec_l1In.f a b c = some (rng a b c) := by
 unfold spec_l1In.f rng; by_cases h : b ≤ a <;> simp [h]
def spec_l2Color.f (a0 : Int) : Option (Bool) := (spec_l1In.f a0 0 5).bind fun t196 => (some t196)
theorem spec_l2Color.calls (a0 : Int) (r : Bool) (w : World) (h : spec_l2Color.f a0 = some r) :
  Calls Try.prog 51 #[.int .i64 a0] w fun e w' => e = .returned (.bool r) ∧ Drawn0 w w' := by
 have H : ((spec_l1In.f a0 0 5).bind fun Aa => (some Aa)) = some r := h; clear h; replace H := Option.bind_eq_some_iff.mp H; obtain ⟨Aa, Ab, H⟩ := H; replace H : (some Aa) = some r := H; have A2 := Aside0.mk Ab; clear Ab; obtain rfl := Option.some.inj H
 go_enter Try.func51, Try.ntmps51
 go_wp2_with (first | ((with_reducible refine gate_callee (f := 65) rfl ?_); refine glE (some 4) Try.func65 #[.int .i64 a0, .int .i64 0, .int .i64 5] ?_; (with_reducible refine (spec_l1In.calls a0 0 5 Aa _ A2.out).mono ?_); rintro e w' ⟨rfl, ⟨nd, rfl⟩⟩; refine ⟨_, rfl, ?_⟩))
 go_ret
 exact ⟨Z5, Z23⟩
def spec_l2Side.f (a0 : Int) : Option (Bool) := (spec_l1In.f a0 1 8).bind fun t197 => (some t197)
theorem spec_l2Side.calls (a0 : Int) (r : Bool) (w : World) (h : spec_l2Side.f a0 = some r) :
  Calls Try.prog 76 #[.int .i64 a0] w fun e w' => e = .returned (.bool r) ∧ Drawn0 w w' := by
 have H : ((spec_l1In.f a0 1 8).bind fun Aa => (some Aa)) = some r := h; clear h; replace H := Option.bind_eq_some_iff.mp H; obtain ⟨Aa, Ab, H⟩ := H; replace H : (some Aa) = some r := H; have A2 := Aside0.mk Ab; clear Ab; obtain rfl := Option.some.inj H
 go_enter Try.func76, Try.ntmps76
 go_wp2_with (first | ((with_reducible refine gate_callee (f := 65) rfl ?_); refine glE (some 4) Try.func65 #[.int .i64 a0, .int .i64 1, .int .i64 8] ?_; (with_reducible refine (spec_l1In.calls a0 1 8 Aa _ A2.out).mono ?_); rintro e w' ⟨rfl, ⟨nd, rfl⟩⟩; refine ⟨_, rfl, ?_⟩))
 go_ret
 exact ⟨Z5, Z23⟩
def spec_l2Good.l0 : Nat → Int → Int → Int → List Int → Option (Bool)
 | 0, _, _, _, _ => none
 | k + 1, x3, x199000, x199001, x199002 => if x3 < (x199002.length : Int) then (if 0 ≤ x3 then ((spec_l2Color.f (rd x199002 x3)).bind fun t200 => (if t200 = true then (spec_l2Good.l0 k (wrap64 (x3 + 1)) x199000 x199001 x199002) else (some false))) else (none)) else ((spec_l2Side.f x199000).bind fun t201 => (if t201 = true then ((spec_l2Side.f x199001).bind fun t202 => (if t202 = true then (some ((x199002.length : Int) == (wrap64 (x199000 * x199001)))) else (some false))) else (some false)))
def spec_l2Good.f (k : Nat) (a0_0 : Int) (a0_1 : Int) (l0_2 : List Int) : Option (Bool) := spec_l2Good.l0 k 0 a0_0 a0_1 l0_2
theorem spec_l2Good.calls (k : Nat) (Ae : Int) (Af : Int) (Ak : Option Addr) (Al : Nat) (Aa : List Int) (r : Bool) (w : World) (Am : Kd.C (Kd.int .i64) w Ak Aa.length Aa) (An : Aa.length ≤ Al) (h : spec_l2Good.f k Ae Af Aa = some r) :
  Calls Try.prog 43 #[.agg #[.int .i64 Ae, .int .i64 Af, .slice Ak Aa.length Al]] w fun e w' => e = .returned (.bool r) ∧ Below w.heap.size w w' := by
 have hu28 := Try.underlying28; have Ao := Aside0.mk Am; have B5 := Aside0.mk An; clear Am An; have HB := aM (Below.refl w.heap.size w); have H : (spec_l2Good.l0 k 0 Ae Af Aa) = some r := h; clear h; have H' := Aside0.mk H; clear H
 go_enter Try.func43, Try.ntmps43
 go_wp2_with (first | ((with_reducible refine gate_dst (N := 1) rfl ?_); (try (refine gate_guard (by rfl) ?_; dsimp only)); refine bxE 1 #[.int .i64 Ae, .int .i64 Af, .slice Ak Aa.length Al] 28 ?_; intro Ap hg w2 hbox hb; have Ac := aM (hbox); have B6 := gwS hg Z0; have Ag := gwS hg Z0; replace HB := hbS Z0 hb; clear hb hbox hg))
 go_loopg [3] k (fun kq v3 w' => ∃ (Ab : Int), v3 = .int .i64 Ab ∧ Aside0 (spec_l2Good.l0 kq Ab Ae Af Aa = some r) ∧ Aside0 (kq ≤ k) ∧ Aside0 (w'.heap[Ap]? = some (.cells #[.int .i64 Ae, .int .i64 Af, (.slice Ak Aa.length Al)] 28 (0, 0))) ∧ Aside0 (Below w.heap.size w w'))
 case atStart => exact ⟨(0), Z5, H', ⟨Nat.le_refl _⟩, ⟨Z21⟩, ⟨Z32⟩⟩
 case round =>
  clear H'; (try clear p2); obtain ⟨Ab, rfl, HA, HK1, Ac, HB⟩ := hrel; cases gk with
  | zero => exact absurd HA.out (by simp [spec_l2Good.l0])
  | succ k1 =>
   have H := HA.out; clear HA
   simp only [spec_l2Good.l0] at H
   by_cases c3 : Ab < (Aa.length : Int)
   ·rw [if_pos c3] at H
    have c3b0 : decide (Ab < (Aa.length : Int)) = true := decide_eq_true c3; clear c3
    by_cases c4 : 0 ≤ Ab
    ·rw [if_pos c4] at H
     have c4b0 : decide (0 ≤ Ab) = true := decide_eq_true c4; clear c4; replace H := Option.bind_eq_some_iff.mp H; obtain ⟨Aq, B7, H⟩ := H; replace H : (if Aq = true then (spec_l2Good.l0 k1 (wrap64 (Ab + 1)) Ae Af Aa) else (some false)) = some r := H; have A5 := Aside0.mk B7; clear B7
     by_cases c6 : Aq = true
     ·subst c6
      have H1 : (spec_l2Good.l0 k1 (wrap64 (Ab + 1)) Ae Af Aa) = some r := by rw [if_pos rfl] at H; exact H
      clear H; have H := H1; clear H1; have H' := Aside0.mk H; clear H; obtain ⟨Bq, Br, Bs⟩ := bz3 Ac; obtain ⟨Bt, Bu, Bv⟩ := fz3 Ac; have Ah : 0 ≤ (Ab : Int) := of_decide_eq_true Z3; have Ai : Ab < (Aa.length : Int) := of_decide_eq_true Z3; obtain ⟨ad199, e199, Ad⟩ := Kd.at_int Ao.out Ab Ah Ai; cases e199; replace Ad := (HB.out.cell (World.block_lt_of_cell? w _ Ad)).trans Ad; replace Ah := eq_true Ah; replace Ai := eq_true Ai
      go_wp2_with (first | ((with_reducible refine gate_callee (f := 51) rfl ?_); refine glE (some 16) Try.func51 #[.int .i64 (rd Aa Ab)] ?_; (with_reducible refine (spec_l2Color.calls (rd Aa Ab) true _ A5.out).mono ?_); rintro e w' ⟨rfl, ⟨nd, rfl⟩⟩; refine ⟨_, rfl, ?_⟩))
      go_roundg k1
      case measure => have := HK1.out; omega
      case rel => exact ⟨(wrap64 (Ab + 1)), Z5, H', ⟨Z62⟩, ⟨Z21⟩, ⟨Z32⟩⟩
     ·replace c6 := Bool.eq_false_iff.mpr c6
      subst c6
      have H1 : (some false) = some r := by rw [if_neg (show ¬ (false = true) by decide)] at H; exact H
      clear H; have H := H1; clear H1; obtain rfl := Option.some.inj H; obtain ⟨Bw, Bx, Bz⟩ := bz3 Ac; obtain ⟨B0, B2, B4⟩ := fz3 Ac; have Ah : 0 ≤ (Ab : Int) := of_decide_eq_true Z3; have Ai : Ab < (Aa.length : Int) := of_decide_eq_true Z3; obtain ⟨ad199, e199, Ad⟩ := Kd.at_int Ao.out Ab Ah Ai; cases e199; replace Ad := (HB.out.cell (World.block_lt_of_cell? w _ Ad)).trans Ad; replace Ah := eq_true Ah; replace Ai := eq_true Ai
      go_wp2_with (first | ((with_reducible refine gate_callee (f := 51) rfl ?_); refine glE (some 16) Try.func51 #[.int .i64 (rd Aa Ab)] ?_; (with_reducible refine (spec_l2Color.calls (rd Aa Ab) false _ A5.out).mono ?_); rintro e w' ⟨rfl, ⟨nd, rfl⟩⟩; refine ⟨_, rfl, ?_⟩))
      go_ret
      exact ⟨Z4, Z32⟩
    ·rw [if_neg c4] at H
     exact absurd H (by simp)
   ·rw [if_neg c3] at H
    have c3b0 : decide (Ab < (Aa.length : Int)) = false := decide_eq_false c3; clear c3; replace H := Option.bind_eq_some_iff.mp H; obtain ⟨Ar, Ca, H⟩ := H; replace H : (if Ar = true then ((spec_l2Side.f Af).bind fun Aj => (if Aj = true then (some ((Aa.length : Int) == (wrap64 (Ae * Af)))) else (some false))) else (some false)) = some r := H; have A9 := Aside0.mk Ca; clear Ca
    by_cases Av : Ar = true
    ·subst Av
     have H1 : ((spec_l2Side.f Af).bind fun Aj => (if Aj = true then (some ((Aa.length : Int) == (wrap64 (Ae * Af)))) else (some false))) = some r := by rw [if_pos rfl] at H; exact H
     clear H; have H := H1; clear H1; replace H := Option.bind_eq_some_iff.mp H; obtain ⟨Aj, Au, H⟩ := H; replace H : (if Aj = true then (some ((Aa.length : Int) == (wrap64 (Ae * Af)))) else (some false)) = some r := H; have Cb := Aside0.mk Au; clear Au
     by_cases Aw : Aj = true
     ·subst Aw
      have H1 : (some ((Aa.length : Int) == (wrap64 (Ae * Af)))) = some r := by rw [if_pos rfl] at H; exact H
      clear H; have H := H1; clear H1; obtain rfl := Option.some.inj H; obtain ⟨Ax, Ay, Az⟩ := bz3 Ac; obtain ⟨Ba, Bb, Bc⟩ := fz3 Ac
      go_wp2_with (first | ((with_reducible refine gate_callee (f := 76) rfl ?_); refine glE (some 20) Try.func76 #[.int .i64 Ae] ?_; (with_reducible refine (spec_l2Side.calls Ae true _ A9.out).mono ?_); rintro e w' ⟨rfl, ⟨nd, rfl⟩⟩; refine ⟨_, rfl, ?_⟩) | (go_at_call 76; (with_reducible refine (spec_l2Side.calls Af true _ Cb.out).mono ?_); rintro e w' ⟨rfl, ⟨nd, rfl⟩⟩))
      go_ret
      exact ⟨Z4, Z32⟩
     ·replace Aw := Bool.eq_false_iff.mpr Aw
      subst Aw
      have H1 : (some false) = some r := by rw [if_neg (show ¬ (false = true) by decide)] at H; exact H
      clear H; have H := H1; clear H1; obtain rfl := Option.some.inj H; obtain ⟨Bd, Bf, Bg⟩ := bz3 Ac; obtain ⟨Bh, Bi, Bj⟩ := fz3 Ac
      go_wp2_with (first | ((with_reducible refine gate_callee (f := 76) rfl ?_); refine glE (some 20) Try.func76 #[.int .i64 Ae] ?_; (with_reducible refine (spec_l2Side.calls Ae true _ A9.out).mono ?_); rintro e w' ⟨rfl, ⟨nd, rfl⟩⟩; refine ⟨_, rfl, ?_⟩) | (go_at_call 76; (with_reducible refine (spec_l2Side.calls Af false _ Cb.out).mono ?_); rintro e w' ⟨rfl, ⟨nd, rfl⟩⟩))
      go_ret
      exact ⟨Z4, Z32⟩
    ·replace Av := Bool.eq_false_iff.mpr Av
     subst Av
     have H1 : (some false) = some r := by rw [if_neg (show ¬ (false = true) by decide)] at H; exact H
     clear H; have H := H1; clear H1; obtain rfl := Option.some.inj H; obtain ⟨Bk, Bl, Bm⟩ := bz3 Ac; obtain ⟨Bn, Bo, Bp⟩ := fz3 Ac
     go_wp2_with (first | ((with_reducible refine gate_callee (f := 76) rfl ?_); refine glE (some 20) Try.func76 #[.int .i64 Ae] ?_; (with_reducible refine (spec_l2Side.calls Ae false _ A9.out).mono ?_); rintro e w' ⟨rfl, ⟨nd, rfl⟩⟩; refine ⟨_, rfl, ?_⟩))
     go_ret
     exact ⟨Z4, Z32⟩
def spec_l12Lots.l0 : Nat → List Int → Int → Option (Bool)
 | 0, _, _ => none
 | k + 1, x0, x3 => if x3 < (x0.length : Int) then (if 0 ≤ x3 then ((spec_l1In.f (rd x0 x3) 1 100).bind fun t204 => (if t204 = true then (spec_l12Lots.l0 k x0 (wrap64 (x3 + 1))) else (some false))) else (none)) else ((spec_l1In.f (x0.length : Int) 1 6).bind fun t205 => (some t205))
def spec_l12Lots.f (k : Nat) (l0 : List Int) : Option (Bool) := spec_l12Lots.l0 k l0 0
theorem spec_l12Lots.calls (k : Nat) (A0 : Option Addr) (c0 : Nat) (l0 : List Int) (r : Bool) (w : World) (Ag : Kd.C (Kd.int .i64) w A0 l0.length l0) (Ah : l0.length ≤ c0) (h : spec_l12Lots.f k l0 = some r) :
  Calls Try.prog 80 #[.slice A0 l0.length c0] w fun e w' => e = .returned (.bool r) ∧ Drawn0 w w' := by
 have Ai := Aside0.mk Ag; have Al := Aside0.mk Ah; clear Ag Ah; have H : (spec_l12Lots.l0 k l0 0) = some r := h; clear h; have H' := Aside0.mk H; clear H
 go_enter Try.func80, Try.ntmps80
 go_wp2
 go_loopg [3] k (fun kq v3 w' => ∃ (Aa : Int), v3 = .int .i64 Aa ∧ Aside0 (spec_l12Lots.l0 kq l0 Aa = some r) ∧ Aside0 (kq ≤ k) ∧ Drawn0 w w')
 case atStart => exact ⟨(0), Z5, H', ⟨Nat.le_refl _⟩, Z23⟩
 case round =>
  clear H'; obtain ⟨Aa, rfl, HA, HK1, ⟨m1, rfl⟩⟩ := hrel; cases gk with
  | zero => exact absurd HA.out (by simp [spec_l12Lots.l0])
  | succ k1 =>
   have H := HA.out; clear HA
   simp only [spec_l12Lots.l0] at H
   by_cases c2 : Aa < (l0.length : Int)
   ·rw [if_pos c2] at H
    have c2b0 : decide (Aa < (l0.length : Int)) = true := decide_eq_true c2; clear c2
    by_cases c3 : 0 ≤ Aa
    ·rw [if_pos c3] at H
     have c3b0 : decide (0 ≤ Aa) = true := decide_eq_true c3; clear c3; replace H := Option.bind_eq_some_iff.mp H; obtain ⟨Ae, Aj, H⟩ := H; replace H : (if Ae = true then (spec_l12Lots.l0 k1 l0 (wrap64 (Aa + 1))) else (some false)) = some r := H; have A4 := Aside0.mk Aj; clear Aj
     by_cases c5 : Ae = true
     ·subst c5
      have H1 : (spec_l12Lots.l0 k1 l0 (wrap64 (Aa + 1))) = some r := by rw [if_pos rfl] at H; exact H
      clear H; have H := H1; clear H1; have H' := Aside0.mk H; clear H; have Ab : 0 ≤ (Aa : Int) := of_decide_eq_true Z3; have Ac : Aa < (l0.length : Int) := of_decide_eq_true Z3; obtain ⟨ad203, e203, Ad⟩ := Kd.at_int Ai.out Aa Ab Ac; cases e203; replace Ab := eq_true Ab; replace Ac := eq_true Ac
      go_wp2_with (first | ((with_reducible refine gate_callee (f := 65) rfl ?_); refine glE (some 14) Try.func65 #[.int .i64 (rd l0 Aa), .int .i64 1, .int .i64 100] ?_; (with_reducible refine (spec_l1In.calls (rd l0 Aa) 1 100 true _ A4.out).mono ?_); rintro e w' ⟨rfl, ⟨nd, rfl⟩⟩; refine ⟨_, rfl, ?_⟩))
      go_roundg k1
      case measure => have := HK1.out; omega
      case rel => exact ⟨(wrap64 (Aa + 1)), Z5, H', ⟨Z62⟩, Z23⟩
     ·replace c5 := Bool.eq_false_iff.mpr c5
      subst c5
      have H1 : (some false) = some r := by rw [if_neg (show ¬ (false = true) by decide)] at H; exact H
      clear H; have H := H1; clear H1; obtain rfl := Option.some.inj H; have Ab : 0 ≤ (Aa : Int) := of_decide_eq_true Z3; have Ac : Aa < (l0.length : Int) := of_decide_eq_true Z3; obtain ⟨ad203, e203, Ad⟩ := Kd.at_int Ai.out Aa Ab Ac; cases e203; replace Ab := eq_true Ab; replace Ac := eq_true Ac
      go_wp2_with (first | ((with_reducible refine gate_callee (f := 65) rfl ?_); refine glE (some 14) Try.func65 #[.int .i64 (rd l0 Aa), .int .i64 1, .int .i64 100] ?_; (with_reducible refine (spec_l1In.calls (rd l0 Aa) 1 100 false _ A4.out).mono ?_); rintro e w' ⟨rfl, ⟨nd, rfl⟩⟩; refine ⟨_, rfl, ?_⟩))
      go_ret
      exact ⟨Z5, Z23⟩
    ·rw [if_neg c3] at H
     exact absurd H (by simp)
   ·rw [if_neg c2] at H
    have c2b0 : decide (Aa < (l0.length : Int)) = false := decide_eq_false c2; clear c2; replace H := Option.bind_eq_some_iff.mp H; obtain ⟨Af, Ak, H⟩ := H; replace H : (some Af) = some r := H; have A6 := Aside0.mk Ak; clear Ak; obtain rfl := Option.some.inj H
    go_wp2_with (first | ((with_reducible refine gate_callee (f := 65) rfl ?_); refine glE (some 18) Try.func65 #[.int .i64 (l0.length : Int), .int .i64 1, .int .i64 6] ?_; (with_reducible refine (spec_l1In.calls (l0.length : Int) 1 6 Af _ A6.out).mono ?_); rintro e w' ⟨rfl, ⟨nd, rfl⟩⟩; refine ⟨_, rfl, ?_⟩))
    go_ret
    exact ⟨Z5, Z23⟩
def spec_l12Asked.f (k : Nat) (a0_0 : Int) (a0_1 : Int) (l0_2 : List Int) (a1 : Int) (l2 : List Int) : Option (Bool) := (spec_l2Good.f k a0_0 a0_1 l0_2).bind fun t207 => (if t207 = true then ((spec_l2Color.f a1).bind fun t208 => (if t208 = true then ((spec_l12Lots.f k l2).bind fun t209 => (some t209)) else (some false))) else (some false))
theorem spec_l12Asked.calls (k : Nat) (Ad : Int) (Ae : Int) (Ag : Option Addr) (Ah : Nat) (Ab : List Int) (a1 : Int) (A2 : Option Addr) (c2 : Nat) (l2 : List Int) (r : Bool) (w : World) (Am : Kd.C (Kd.int .i64) w Ag Ab.length Ab) (An : Ab.length ≤ Ah) (Bl : Kd.C (Kd.int .i64) w A2 l2.length l2) (Bm : l2.length ≤ c2) (h : spec_l12Asked.f k Ad Ae Ab a1 l2 = some r) :
  Calls Try.prog 55 #[.agg #[.int .i64 Ad, .int .i64 Ae, .slice Ag Ab.length Ah], .int .i64 a1, .slice A2 l2.length c2] w fun e w' => e = .returned (.bool r) ∧ Below w.heap.size w w' := by
 have hu28 := Try.underlying28; have Aj := Aside0.mk Am; have Ak := Aside0.mk An; clear Am An; have Bq := Aside0.mk Bl; have Br := Aside0.mk Bm; clear Bl Bm; have HB := aM (Below.refl w.heap.size w); have H : ((spec_l2Good.f k Ad Ae Ab).bind fun Al => (if Al = true then ((spec_l2Color.f a1).bind fun Ai => (if Ai = true then ((spec_l12Lots.f k l2).bind fun Af => (some Af)) else (some false))) else (some false))) = some r := h; clear h; replace H := Option.bind_eq_some_iff.mp H; obtain ⟨Al, Bn, H⟩ := H; replace H : (if Al = true then ((spec_l2Color.f a1).bind fun Ai => (if Ai = true then ((spec_l12Lots.f k l2).bind fun Af => (some Af)) else (some false))) else (some false)) = some r := H; have A4 := Aside0.mk Bn; clear Bn
 by_cases c5 : Al = true
 ·subst c5
  have H1 : ((spec_l2Color.f a1).bind fun Ai => (if Ai = true then ((spec_l12Lots.f k l2).bind fun Af => (some Af)) else (some false))) = some r := by rw [if_pos rfl] at H; exact H
  clear H; have H := H1; clear H1; replace H := Option.bind_eq_some_iff.mp H; obtain ⟨Ai, Bo, H⟩ := H; replace H : (if Ai = true then ((spec_l12Lots.f k l2).bind fun Af => (some Af)) else (some false)) = some r := H; have A6 := Aside0.mk Bo; clear Bo
  by_cases c7 : Ai = true
  ·subst c7
   have H1 : ((spec_l12Lots.f k l2).bind fun Af => (some Af)) = some r := by rw [if_pos rfl] at H; exact H
   clear H; have H := H1; clear H1; replace H := Option.bind_eq_some_iff.mp H; obtain ⟨Af, Bp, H⟩ := H; replace H : (some Af) = some r := H; have A8 := Aside0.mk Bp; clear Bp; obtain rfl := Option.some.inj H
   go_enter Try.func55, Try.ntmps55
   go_wp2_with (first | ((with_reducible refine gate_dst (N := 3) rfl ?_); refine bxE 3 #[.int .i64 Ad, .int .i64 Ae, .slice Ag Ab.length Ah] 28 ?_; intro Ao hg w9 hbox hb; have Aa := aM (hbox); have Ap := gwS hg Z0; have Ac := gwS hg Z0; replace HB := hbS Z0 hb; clear hb hbox hg; obtain ⟨Aq, Ar, Au⟩ := bz3 Aa; obtain ⟨Av, Aw, Ax⟩ := fz3 Aa) | ((with_reducible refine gate_callee (f := 43) rfl ?_); refine glE (some 8) Try.func43 #[.agg #[.int .i64 Ad, .int .i64 Ae, .slice Ag Ab.length Ah]] ?_; (with_reducible refine (spec_l2Good.calls k Ad Ae _ _ Ab true _ ?side1 ?side2 A4.out).mono ?_); (case side1 => exact Z26); (case side2 => exact Ak.out); rintro e Bs ⟨rfl, hb⟩; refine ⟨_, rfl, ?_⟩; replace Aa := bkB Aa hb; replace HB := hbS Z1 hb; (try clear hb)) | (go_at_call 51; (with_reducible refine (spec_l2Color.calls a1 true _ A6.out).mono ?_); rintro e w' ⟨rfl, ⟨nd, rfl⟩⟩) | (go_at_call 80; (with_reducible refine (spec_l12Lots.calls k _ _ l2 Af _ ?side1 ?side2 A8.out).mono ?_); (case side1 => repeat (first | exact (Kd.C_below Bq.out Z1) | (with_reducible refine Kd.C_alloc ?_ _) | (with_reducible refine Kd.C_drewN ?_ _) | (with_reducible refine Kd.C_drew ?_))); (case side2 => exact Br.out); rintro e w' ⟨rfl, ⟨nd, rfl⟩⟩))
   go_ret
   exact ⟨Z4, Z1⟩
  ·replace c7 := Bool.eq_false_iff.mpr c7
   subst c7
   have H1 : (some false) = some r := by rw [if_neg (show ¬ (false = true) by decide)] at H; exact H
   clear H; have H := H1; clear H1; obtain rfl := Option.some.inj H
   go_enter Try.func55, Try.ntmps55
   go_wp2_with (first | ((with_reducible refine gate_dst (N := 3) rfl ?_); refine bxE 3 #[.int .i64 Ad, .int .i64 Ae, .slice Ag Ab.length Ah] 28 ?_; intro Ao hg Bt hbox hb; have Aa := aM (hbox); have Ap := gwS hg Z0; have Ac := gwS hg Z0; replace HB := hbS Z0 hb; clear hb hbox hg; obtain ⟨Ay, Az, Ba⟩ := bz3 Aa; obtain ⟨Bb, Bc, Bd⟩ := fz3 Aa) | ((with_reducible refine gate_callee (f := 43) rfl ?_); refine glE (some 8) Try.func43 #[.agg #[.int .i64 Ad, .int .i64 Ae, .slice Ag Ab.length Ah]] ?_; (with_reducible refine (spec_l2Good.calls k Ad Ae _ _ Ab true _ ?side1 ?side2 A4.out).mono ?_); (case side1 => exact Z26); (case side2 => exact Ak.out); rintro e Bu ⟨rfl, hb⟩; refine ⟨_, rfl, ?_⟩; replace Aa := bkB Aa hb; replace HB := hbS Z1 hb; (try clear hb)) | (go_at_call 51; (with_reducible refine (spec_l2Color.calls a1 false _ A6.out).mono ?_); rintro e w' ⟨rfl, ⟨nd, rfl⟩⟩))
   go_ret
   exact ⟨Z4, Z1⟩
 ·replace c5 := Bool.eq_false_iff.mpr c5
  subst c5
  have H1 : (some false) = some r := by rw [if_neg (show ¬ (false = true) by decide)] at H; exact H
  clear H; have H := H1; clear H1; obtain rfl := Option.some.inj H
  go_enter Try.func55, Try.ntmps55
  go_wp2_with (first | ((with_reducible refine gate_dst (N := 3) rfl ?_); refine bxE 3 #[.int .i64 Ad, .int .i64 Ae, .slice Ag Ab.length Ah] 28 ?_; intro Ao hg Bv hbox hb; have Aa := aM (hbox); have Ap := gwS hg Z0; have Ac := gwS hg Z0; replace HB := hbS Z0 hb; clear hb hbox hg; obtain ⟨Bf, Bg, Bh⟩ := bz3 Aa; obtain ⟨Bi, Bj, Bk⟩ := fz3 Aa) | ((with_reducible refine gate_callee (f := 43) rfl ?_); refine glE (some 8) Try.func43 #[.agg #[.int .i64 Ad, .int .i64 Ae, .slice Ag Ab.length Ah]] ?_; (with_reducible refine (spec_l2Good.calls k Ad Ae _ _ Ab false _ ?side1 ?side2 A4.out).mono ?_); (case side1 => exact Z26); (case side2 => exact Ak.out); rintro e Bw ⟨rfl, hb⟩; refine ⟨_, rfl, ?_⟩; replace Aa := bkB Aa hb; replace HB := hbS Z1 hb; (try clear hb)))
  go_ret
  exact ⟨Z4, Z1⟩
end Go.Proofs.Ytaadbpibmlnncaa.H
