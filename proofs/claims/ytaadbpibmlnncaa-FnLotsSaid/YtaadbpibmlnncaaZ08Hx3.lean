-- by wip/pack.py of this repo
import Derived.Test.YtaadbpibmlnncaaZ08Hx0
import Derived.Test.YtaadbpibmlnncaaZ08Hx1
import Derived.Test.YtaadbpibmlnncaaZ08Hx2
import Derived.Test.YtaadbpibmlnncaaZ08WGuard
import Derived.Test.YtaadbpibmlnncaaZ08WLast
import Derived.Test.YtaadbpibmlnncaaZ08WMore
import Derived.Test.YtaadbpibmlnncaaZ08WRepsOne
import Derived.Test.YtaadbpibmlnncaaZ08WWords
import Derived.Test.YtaadbpibmlnncaaZ08Short
namespace Go.Proofs.Ytaadbpibmlnncaa.H
open Go.RowKit Go.Proofs.YtaadbpibmlnncaaW.PrintWords Go.Proofs.YtaadbpibmlnncaaW.PrintLast Go.Proofs.YtaadbpibmlnncaaW.PrintMore
attribute [local go_sem] max2_int min2_int max_two min_two max_three min_three max_four min_four
set_option maxHeartbeats 8000000
set_option maxRecDepth 100000
set_option linter.unusedVariables false
set_option linter.unusedSimpArgs false
def spec_l12Sizes.l0 : Nat → List Int → List Int → List Int → Int → Int → Int → List Int → Option (List Int × List Int)
 | 0, _, _, _, _, _, _, _ => none
 | k + 1, x4, x6, x7, x8, x155000, x155001, x155002 => if x8 < (x4.length : Int) then (if 0 ≤ x8 then (if 0 ≤ (rd x4 x8) then (if (rd x4 x8) < (x6.length : Int) then (if x8 < (x155002.length : Int) then (if (rd x4 x8) < (x7.length : Int) then (spec_l12Sizes.l0 k x4 (x6.set ((rd x4 x8) : Int).toNat (wrap64 ((rd x6 (rd x4 x8)) + 1))) (x7.set ((rd x4 x8) : Int).toNat (rd x155002 x8)) (wrap64 (x8 + 1)) x155000 x155001 x155002) else (none)) else (none)) else (none)) else (none)) else (none)) else (some (x6, x7))
def spec_l12Sizes.f (k : Nat) (a0_0 : Int) (a0_1 : Int) (l0_2 : List Int) : Option (List Int × List Int) := (spec_l12Areas.f k a0_0 a0_1 l0_2).bind fun bt155 => (if 0 ≤ bt155.2 then (if (bt155.2 : Int).toNat ≤ 35184372088832 then (spec_l12Sizes.l0 k bt155.1 (List.replicate (bt155.2 : Int).toNat 0) (List.replicate (bt155.2 : Int).toNat 0) 0 a0_0 a0_1 l0_2) else (none)) else (none))
theorem spec_l12Sizes.calls (k : Nat) (Ah : Int) (Ai : Int) (Ba : Option Addr) (Aw : Nat) (Ae : List Int) (r1 : List Int) (r2 : List Int) (w : World) (Bt : Kd.C (Kd.int .i64) w Ba Ae.length Ae) (Bu : Ae.length ≤ Aw) (h : spec_l12Sizes.f k Ah Ai Ae = some (r1, r2)) :
  Calls Try.prog 47 #[.agg #[.int .i64 Ah, .int .i64 Ai, .slice Ba Ae.length Aw]] w fun e w' => ∃ v0_ v1_ : Value, e = .returned (.tuple #[v0_, v1_]) ∧ Kd.R (Kd.int .i64) 3 w' w.heap.size (fun k_ => nV k_ v1_) v0_ r1 ∧ Kd.R (Kd.int .i64) 3 w' w.heap.size (fun k_ => nV k_ v0_) v1_ r2 ∧ Below w.heap.size w w' := by
 have hu28 := Try.underlying28; have Bv := Aside0.mk Bt; have Ci := Aside0.mk Bu; clear Bt Bu; have HB := aM (Below.refl w.heap.size w); have H : ((spec_l12Areas.f k Ah Ai Ae).bind fun Bb => (if 0 ≤ Bb.2 then (if (Bb.2 : Int).toNat ≤ 35184372088832 then (spec_l12Sizes.l0 k Bb.1 (List.replicate (Bb.2 : Int).toNat 0) (List.replicate (Bb.2 : Int).toNat 0) 0 Ah Ai Ae) else (none)) else (none))) = some (r1, r2) := h; clear h; replace H := Option.bind_eq_some_iff.mp H; obtain ⟨⟨Ac, Ag⟩, Di, H⟩ := H; replace H : (if 0 ≤ Ag then (if (Ag : Int).toNat ≤ 35184372088832 then (spec_l12Sizes.l0 k Ac (List.replicate (Ag : Int).toNat 0) (List.replicate (Ag : Int).toNat 0) 0 Ah Ai Ae) else (none)) else (none)) = some (r1, r2) := H; have A2 := Aside0.mk Di; clear Di
 by_cases c3 : 0 ≤ Ag
 ·rw [if_pos c3] at H
  have c3b0 := eq_true c3; have c3b1 : decide (0 ≤ Ag) = true := decide_eq_true c3; clear c3
  by_cases c4 : (Ag : Int).toNat ≤ 35184372088832
  ·rw [if_pos c4] at H
   have c4b0 := eq_true c4; have c4b1 : decide ((Ag : Int).toNat ≤ 35184372088832) = true := decide_eq_true c4; clear c4; obtain ⟨Bn, Bc⟩ : ∃ y_ : List Int, y_ = (List.replicate (Ag : Int).toNat 0) := ⟨_, rfl⟩
   replace H : (spec_l12Sizes.l0 k Ac Bn (List.replicate (Ag : Int).toNat 0) 0 Ah Ai Ae) = some (r1, r2) := by first | (rw [Bc]; with_reducible exact H) | (have H2_ := (Option.bind_some _ _).symm.trans H; rw [Bc]; with_reducible exact H2_) | (have H2_ := (Option.bind_some _ _).symm.trans H; with_reducible exact H2_) | with_reducible exact H | (rw [Bc]; exact H) | exact H
   have Bl := Aside0.mk Bc; clear Bc; obtain ⟨Bp, Bd⟩ : ∃ y_ : List Int, y_ = (List.replicate (Ag : Int).toNat 0) := ⟨_, rfl⟩
   replace H : (spec_l12Sizes.l0 k Ac Bn Bp 0 Ah Ai Ae) = some (r1, r2) := by first | (rw [Bd]; with_reducible exact H) | (have H2_ := (Option.bind_some _ _).symm.trans H; rw [Bd]; with_reducible exact H2_) | (have H2_ := (Option.bind_some _ _).symm.trans H; with_reducible exact H2_) | with_reducible exact H | (rw [Bd]; exact H) | exact H
   have Bm := Aside0.mk Bd; clear Bd; have H' := Aside0.mk H; clear H
   go_enter Try.func47, Try.ntmps47
   try go_wp2_with (first | ((with_reducible refine gate_dst (N := 1) rfl ?_); refine bxE 1 #[.int .i64 Ah, .int .i64 Ai, .slice Ba Ae.length Aw] 28 ?_; intro Bf hg w5 hbox hb; have Ab := aM (hbox); have Dj := gwS hg Z0; have Af := gwS hg Z0; replace HB := hbS Z0 hb; clear hb hbox hg; obtain ⟨Bw, Bx, Bz⟩ := bz3 Ab; obtain ⟨B0, B2, B5⟩ := fz3 Ab) | ((with_reducible refine gate_callee (f := 44) rfl ?_); refine glE (some 12) Try.func44 #[.agg #[.int .i64 Ah, .int .i64 Ai, .slice Ba Ae.length Aw]] ?_; (with_reducible refine (spec_l12Areas.calls k Ah Ai _ _ Ae Ac Ag _ ?side1 ?side2 A2.out).mono ?_); (case side1 => exact Z141); (case side2 => exact Ci.out); rintro e w7 ⟨Ax, rfl, Dk, hb⟩; refine ⟨_, rfl, ?_⟩; have Ad := aM (Kd.R_lower Dk (below_size Z4)); replace Ab := bkB Ab hb; replace HB := hbS Z4 hb; (try clear hb); (try clear Dk)))
   replace Ad := aM (Kd.R_drew Ad.out); replace Ab := aM (blk_drew Ab.out); replace HB := aM (below_drew1 HB.out); refine start_ (n := 6) (S := fun w' => True) (ds := []) #[false, false, false, false, false, false] Z61 rfl rfl trivial (fun hHeld => ?_)
   generalize w7.drew = w8 at Ad Ab HB hHeld ⊢
   refine puK 0 15 #[true, false, false, false, false, false] rfl rfl ?_; refine puK 2 17 #[true, false, true, false, false, false] rfl rfl ?_; refine join_ (σ := Value × Value) 1 #[true, true, true, true, true, false] (fun s_ => [(16, s_.1), (18, s_.2), (6, s_.1)]) (fun s_ w' => (Kd.R (Kd.int .i64) 3 w' w.heap.size (fun k_ => some k_ ≠ (s_.1 : Value).ownBlock ∧ some k_ ≠ (s_.2 : Value).ownBlock) Ax Ac) ∧ (Kd.R (Kd.int .i64) 3 w' w.heap.size (fun k_ => nV k_ Ax ∧ some k_ ≠ (s_.2 : Value).ownBlock) s_.1 Bn) ∧ (Kd.R (Kd.int .i64) 3 w' w.heap.size (fun k_ => nV k_ Ax ∧ some k_ ≠ (s_.1 : Value).ownBlock) s_.2 Bp) ∧ (w'.heap[Bf]? = some (.cells #[.int .i64 Ah, .int .i64 Ai, .slice Ba Ae.length Aw] 28 (0, 0))) ∧ (Below w.heap.size w w')) ?_ ?_
   rotate_left
   ·intro hCont
    refine two_ (i := 1) (j := 3) (Ni := some 16) (Nj := some 18) #[true, true, true, false, false, false] #[true, false, true, true, false, false] rfl rfl rfl rfl Z61 (by decide) (by decide) (fun K hK => ?_) (fun K hK => ?_)
    ·skip
     refine Kd.R_make_step (Kd.int .i64) _ 3 (by rfl) (N := 16) rfl 22 _ _ rfl Ag rfl rfl Try.underlying22 (.int .i64 0) 8 info3 rfl (by decide) (by omega) 0 (ok := fun _ => True) (okp := fun _ => True) rfl (fun _ hk => hk) trivial (of_decide_eq_true Z3) (Nat.le_trans (Nat.mul_le_mul_right _ (of_decide_eq_true Z3 : Ag.toNat ≤ 35184372088832)) (by omega)) (Below.refl _ _) (Nat.le_refl _) ?_; intro Ar w9 Am hb hg_ hnew_; clear hg_ hnew_
     (first | rw [← Bl.out] at Am | (simp only [Int.reduceToNat] at Am; rw [← Bl.out] at Am))
     have An := aM (Kd.R_lower (Kd.R_new' Am (Kd.R_lt Z35)) (below_size Z4)); replace Ad := aM (Kd.R_elder' Z35 (Kd.R_base Am) hb); replace Ab := bkB Ab hb; replace HB := hbS Z4 hb; clear hb Am; refine hK.out _ _ trivial (fun hHeld => ?_); clear hK K; refine noR 16 ?_; refine puK 4 6 #[true, true, true, false, true, false] rfl rfl ?_; refine one_ (i := 3) (N := some 18) #[true, true, true, true, true, false] rfl rfl Z61 (by decide) (fun K hK => ?_); refine Kd.R_make_step (Kd.int .i64) _ 3 (by rfl) (N := 18) rfl 22 _ _ rfl Ag rfl rfl Try.underlying22 (.int .i64 0) 8 info3 rfl (by decide) (by omega) 0 (ok := fun _ => True) (okp := fun _ => True) rfl (fun _ hk => hk) trivial (of_decide_eq_true Z3) (Nat.le_trans (Nat.mul_le_mul_right _ (of_decide_eq_true Z3 : Ag.toNat ≤ 35184372088832)) (by omega)) (Below.refl _ _) (Nat.le_refl _) ?_; intro Ap Dl Ak hb hg_ hnew_; clear hg_ hnew_
     (first | rw [← Bm.out] at Ak | (simp only [Int.reduceToNat] at Ak; rw [← Bm.out] at Ak))
     have Ao := aM (Kd.R_lower (Kd.R_new' (Kd.R_new' Ak (Kd.R_lt Z35)) (Kd.R_lt Z110)) (below_size Z4)); replace Ad := aM (Kd.R_elder' Z35 (Kd.R_base Ak) hb); replace An := aM (Kd.R_elder' Z110 (Kd.R_base Ak) hb); replace Ab := bkB Ab hb; replace HB := hbS Z4 hb; clear hb Ak; refine hK.out _ _ trivial (fun hHeld => ?_); clear hK K; refine noR 18 ?_
     exact norm_ Z115 (hCont (Ar, Ap) _ ⟨Z169, Z116, Z117, Z12, Z4⟩)
    ·skip
     refine Kd.R_make_step (Kd.int .i64) _ 3 (by rfl) (N := 18) rfl 22 _ _ rfl Ag rfl rfl Try.underlying22 (.int .i64 0) 8 info3 rfl (by decide) (by omega) 0 (ok := fun _ => True) (okp := fun _ => True) rfl (fun _ hk => hk) trivial (of_decide_eq_true Z3) (Nat.le_trans (Nat.mul_le_mul_right _ (of_decide_eq_true Z3 : Ag.toNat ≤ 35184372088832)) (by omega)) (Below.refl _ _) (Nat.le_refl _) ?_; intro Ap w9 Am hb hg_ hnew_; clear hg_ hnew_
     (first | rw [← Bm.out] at Am | (simp only [Int.reduceToNat] at Am; rw [← Bm.out] at Am))
     have Ao := aM (Kd.R_lower (Kd.R_new' Am (Kd.R_lt Z35)) (below_size Z4)); replace Ad := aM (Kd.R_elder' Z35 (Kd.R_base Am) hb); replace Ab := bkB Ab hb; replace HB := hbS Z4 hb; clear hb Am; refine hK.out _ _ trivial (fun hHeld => ?_); clear hK K; refine noR 18 ?_; refine one_ (i := 1) (N := some 16) #[true, true, true, true, false, false] rfl rfl Z61 (by decide) (fun K hK => ?_); refine Kd.R_make_step (Kd.int .i64) _ 3 (by rfl) (N := 16) rfl 22 _ _ rfl Ag rfl rfl Try.underlying22 (.int .i64 0) 8 info3 rfl (by decide) (by omega) 0 (ok := fun _ => True) (okp := fun _ => True) rfl (fun _ hk => hk) trivial (of_decide_eq_true Z3) (Nat.le_trans (Nat.mul_le_mul_right _ (of_decide_eq_true Z3 : Ag.toNat ≤ 35184372088832)) (by omega)) (Below.refl _ _) (Nat.le_refl _) ?_; intro Ar Dl Ak hb hg_ hnew_; clear hg_ hnew_
     (first | rw [← Bl.out] at Ak | (simp only [Int.reduceToNat] at Ak; rw [← Bl.out] at Ak))
     have An := aM (Kd.R_lower (Kd.R_new' (Kd.R_new' Ak (Kd.R_lt Z35)) (Kd.R_lt Z81)) (below_size Z4)); replace Ad := aM (Kd.R_elder' Z35 (Kd.R_base Ak) hb); replace Ao := aM (Kd.R_elder' Z81 (Kd.R_base Ak) hb); replace Ab := bkB Ab hb; replace HB := hbS Z4 hb; clear hb Ak; refine hK.out _ _ trivial (fun hHeld => ?_); clear hK K; refine noR 16 ?_; refine puK 4 6 #[true, true, true, true, true, false] rfl rfl ?_
     exact norm_ Z115 (hCont (Ar, Ap) _ ⟨Z170, Z116, Z117, Z12, Z4⟩)
   rintro ⟨Ar, Ap⟩ Cj ⟨h0_, h1_, h2_, h3_, h4_⟩; have n0_ : Aside0 (Kd.R (Kd.int .i64) 3 Cj w.heap.size (fun k_ => nV k_ Ar ∧ nV k_ Ap) Ax Ac) := ⟨h0_⟩; have n1_ : Aside0 (Kd.R (Kd.int .i64) 3 Cj w.heap.size (fun k_ => nV k_ Ax ∧ nV k_ Ap) Ar Bn) := ⟨h1_⟩; have n2_ : Aside0 (Kd.R (Kd.int .i64) 3 Cj w.heap.size (fun k_ => nV k_ Ax ∧ nV k_ Ar) Ap Bp) := ⟨h2_⟩; have n3_ : Aside0 (Cj.heap[Bf]? = some (.cells #[.int .i64 Ah, .int .i64 Ai, .slice Ba Ae.length Aw] 28 (0, 0))) := ⟨h3_⟩; have n4_ : Aside0 (Below w.heap.size w Cj) := ⟨h4_⟩; clear Ad; clear Ab; clear HB; clear h0_ h1_ h2_ h3_ h4_; have Ad := n0_; have An := n1_; have Ao := n2_; have Ab := n3_; have HB := n4_; clear n0_ n1_ n2_ n3_ n4_; have hHeld := trivial; refine norm_ (a' := ?_) ?_ ?_
   rotate_left
   ·simp only [putAll, Act.put, List.setIfInBounds_toArray, List.set_cons_zero, List.set_cons_succ]
    rfl
   refine puK 5 7 #[true, true, true, true, true, true] rfl rfl ?_; refine done_ Z61 ?_
   try go_wp2
   go_loopg [8] k (fun kq v8 w' => ∃ (Aj : List Int) (Al : List Int) (Aa : Int), v8 = .int .i64 Aa ∧ Aside0 (spec_l12Sizes.l0 kq Ac Aj Al Aa Ah Ai Ae = some (r1, r2)) ∧ Aside0 (kq ≤ k) ∧ Aside0 (Kd.R (Kd.int .i64) 3 w' w.heap.size (fun k_ => nV k_ Ar ∧ nV k_ Ap) Ax Ac) ∧ Aside0 (Kd.R (Kd.int .i64) 3 w' w.heap.size (fun k_ => nV k_ Ax ∧ nV k_ Ap) Ar Aj) ∧ Aside0 (Kd.R (Kd.int .i64) 3 w' w.heap.size (fun k_ => nV k_ Ax ∧ nV k_ Ar) Ap Al) ∧ Aside0 (w'.heap[Bf]? = some (.cells #[.int .i64 Ah, .int .i64 Ai, (.slice Ba Ae.length Aw)] 28 (0, 0))) ∧ Aside0 (Below w.heap.size w w'))
   case atStart => exact ⟨(Bn), (Bp), (0), Z14, H', ⟨Nat.le_refl _⟩, ⟨Z35⟩, ⟨Z110⟩, ⟨Z81⟩, ⟨Z12⟩, ⟨Z4⟩⟩
   case round =>
    clear H'; (try clear p2); (try clear c3); (try clear c3b0); (try clear c3b1); (try clear c4); (try clear c4b0); (try clear c4b1); (try clear Bw); (try clear Bx); (try clear Bz); (try clear B0); (try clear B2); (try clear B5); obtain ⟨Aj, Al, Aa, rfl, HA, HK1, Bg, Aq, Au, Ab, HB⟩ := hrel; cases gk with
    | zero => exact absurd HA.out (by simp [spec_l12Sizes.l0])
    | succ k1 =>
     have H := HA.out; clear HA
     simp only [spec_l12Sizes.l0] at H
     by_cases Ch : Aa < (Ac.length : Int)
     ·rw [if_pos Ch] at H
      have c14b0 : decide (Aa < (Ac.length : Int)) = true := decide_eq_true Ch; clear Ch
      by_cases Cr : 0 ≤ Aa
      ·rw [if_pos Cr] at H
       have c15b0 : decide (0 ≤ Aa) = true := decide_eq_true Cr; clear Cr
       by_cases Cs : 0 ≤ (rd Ac Aa)
       ·rw [if_pos Cs] at H
        have c16b0 : decide (0 ≤ (rd Ac Aa)) = true := decide_eq_true Cs; clear Cs
        by_cases Ct : (rd Ac Aa) < (Aj.length : Int)
        ·rw [if_pos Ct] at H
         have c17b0 : decide ((rd Ac Aa) < (Aj.length : Int)) = true := decide_eq_true Ct; clear Ct; obtain ⟨Bq, Bh⟩ : ∃ y_ : List Int, y_ = (Aj.set ((rd Ac Aa) : Int).toNat (wrap64 ((rd Aj (rd Ac Aa)) + 1))) := ⟨_, rfl⟩
         replace H : (if Aa < (Ae.length : Int) then (if (rd Ac Aa) < (Al.length : Int) then (spec_l12Sizes.l0 k1 Ac Bq (Al.set ((rd Ac Aa) : Int).toNat (rd Ae Aa)) (wrap64 (Aa + 1)) Ah Ai Ae) else (none)) else (none)) = some (r1, r2) := by first | (rw [Bh]; with_reducible exact H) | (have H2_ := (Option.bind_some _ _).symm.trans H; rw [Bh]; with_reducible exact H2_) | (have H2_ := (Option.bind_some _ _).symm.trans H; with_reducible exact H2_) | with_reducible exact H | (rw [Bh]; exact H) | exact H
         have Ck := Aside0.mk Bh; clear Bh
         by_cases Cu : Aa < (Ae.length : Int)
         ·rw [if_pos Cu] at H
          have c19b0 : decide (Aa < (Ae.length : Int)) = true := decide_eq_true Cu; clear Cu
          by_cases Cv : (rd Ac Aa) < (Al.length : Int)
          ·rw [if_pos Cv] at H
           have c20b0 : decide ((rd Ac Aa) < (Al.length : Int)) = true := decide_eq_true Cv; clear Cv; obtain ⟨B6, Bi⟩ : ∃ y_ : List Int, y_ = (Al.set ((rd Ac Aa) : Int).toNat (rd Ae Aa)) := ⟨_, rfl⟩
           replace H : (spec_l12Sizes.l0 k1 Ac Bq B6 (wrap64 (Aa + 1)) Ah Ai Ae) = some (r1, r2) := by first | (rw [Bi]; with_reducible exact H) | (have H2_ := (Option.bind_some _ _).symm.trans H; rw [Bi]; with_reducible exact H2_) | (have H2_ := (Option.bind_some _ _).symm.trans H; with_reducible exact H2_) | with_reducible exact H | (rw [Bi]; exact H) | exact H
           have Cl := Aside0.mk Bi; clear Bi; have H' := Aside0.mk H; clear H; obtain ⟨Dm, Br, C4⟩ := Kd.R_slice Bg.out; subst C4; have B7 : 0 ≤ (Aa : Int) := of_decide_eq_true Z3; have Ca : Aa < (Ac.length : Int) := of_decide_eq_true Z3; obtain ⟨ad165, e165, Cw⟩ := Kd.at_int (Kd.R_reads' Bg.out).2.2 Aa B7 Ca; cases e165; replace B7 := eq_true B7; replace Ca := eq_true Ca; obtain ⟨Dn, Bj, C5⟩ := Kd.R_slice Aq.out; subst C5; have Cb : 0 ≤ ((rd Ac Aa) : Int) := of_decide_eq_true Z3; have Cc : (rd Ac Aa) < (Aj.length : Int) := of_decide_eq_true Z3; obtain ⟨ad166, e166, Bs⟩ := Kd.at_int (Kd.R_reads' Aq.out).2.2 (rd Ac Aa) Cb Cc; cases e166; replace Cb := eq_true Cb; replace Cc := eq_true Cc; have C6 : 0 ≤ ((rd Ac Aa) : Int) := of_decide_eq_true Z3; have C7 : ((rd Ac Aa) : Int) < ((Aj.length : Int) : Int) := of_decide_eq_true Z3; obtain ⟨Ay, Dp, Cm, Cn, gl18, cl18, HG18⟩ := Kd.R_form Aq.out (by omega)
           (first | cases Cm | (injection Cm with ea_ en_ ec_; (first | subst ea_ | (injection ea_ with ea_; subst ea_)); subst ec_; clear en_))
           have C8 := Aside0.mk Cn; have Dq := Aside0.mk HG18; clear Cn gl18 HG18
           (first | simp only [add_plain] at Bs | skip)
           obtain ⟨C9, Da⟩ := Kd.R_celln 0 Aq.out ((rd Ac Aa) : Int) C6 C7; replace C6 := eq_true C6; replace C7 := eq_true C7; have Cd := Kd.R_putg Aq.out ((rd Ac Aa) : Int) (wrap64 ((rd Aj (rd Ac Aa)) + 1))
           go_wp2_with (first | ((with_reducible refine gate_store (t := 3) (p := 36) rfl ?_); refine store_event (t := 3) (p := 36) (v := ?vo_w25) (w1 := (wr.setCell ⟨Ay, ((rd Ac Aa) : Int).toNat, none⟩ (.int .i64 (wrap64 ((rd Aj (rd Ac Aa)) + 1))))) ?hg ?ho ?hn ?hr ?_; (case ho => rfl); (case hg => rfl); (case hn => rfl); (case hr => first | (go_simp; done) | (go_simp; rfl)); intro Co hw; have hg : wr.grownBy Co (some Ay) := (by rw [hw]; exact Cd.2); have hp_ : Kd.R (Kd.int .i64) 3 Co w.heap.size (fun k_ => some k_ ≠ (.slice (some ad165) Ac.length Br : Value).ownBlock ∧ nV k_ Ap) (.slice (some ⟨Ay, 0, none⟩) Aj.length Bj) Bq := (by rw [hw, Ck.out]; exact Cd.1); clear Cd; replace Bg := aM (Kd.R_after (v := (.slice (some ⟨Ay, 0, none⟩) Aj.length Bj)) (v1 := (.slice (some ⟨Ay, 0, none⟩) Aj.length Bj)) (ok := (fun k_ => nV k_ Ap)) Z102 hg (.inl rfl)); replace Au := aM (Kd.R_after (v := (.slice (some ⟨Ay, 0, none⟩) Aj.length Bj)) (v1 := (.slice (some ⟨Ay, 0, none⟩) Aj.length Bj)) (ok := (fun k_ => some k_ ≠ (.slice (some ad165) Ac.length Br : Value).ownBlock)) Z129 hg (.inl rfl)); replace Ab := aM (blk_grown (g := Bf) (o := .cells #[.int .i64 Ah, .int .i64 Ai, .slice Ba Ae.length Aw] 28 (0, 0)) Z12 hg (Kd.R_ne Aq.out Ab.out (by decide))); replace Aq := aM (hp_); replace HB := aM ((by rw [hw]; exact below_set (HB.out) C8.out : Below w.heap.size w Co)); clear hg hw hp_; obtain ⟨Cx, Cy, Cz⟩ := bz3 Ab; obtain ⟨C0, C1, C3⟩ := fz3 Ab; have Ce : 0 ≤ (Aa : Int) := of_decide_eq_true Z3; have Cf : Aa < (Ae.length : Int) := of_decide_eq_true Z3; obtain ⟨ad168, e168, Az⟩ := Kd.at_int Bv.out Aa Ce Cf; cases e168; replace Az := (HB.out.cell (World.block_lt_of_cell? w _ Az)).trans Az; replace Ce := eq_true Ce; replace Cf := eq_true Cf; have Db : 0 ≤ ((rd Ac Aa) : Int) := of_decide_eq_true Z3; have Dc : ((rd Ac Aa) : Int) < ((Al.length : Int) : Int) := of_decide_eq_true Z3; obtain ⟨Bk, Bo, Cp, Cq, gl21, cl21, HG21⟩ := Kd.R_form Au.out (by omega); (first | cases Cp | (injection Cp with ea_ en_ ec_; (first | subst ea_ | (injection ea_ with ea_; subst ea_)); subst ec_; clear en_)); have Dd := Aside0.mk Cq; have Dr := Aside0.mk HG21; clear Cq gl21 HG21; obtain ⟨De, Df⟩ := Kd.R_celln 0 Au.out ((rd Ac Aa) : Int) Db Dc; replace Db := eq_true Db; replace Dc := eq_true Dc; obtain ⟨hy27_, hz27_⟩ := Kd.R_celln 0 Au.out ((rd Ac Aa) : Int) (of_decide_eq_true Z3) (of_decide_eq_true Z3); have Cg := Kd.R_putg Au.out ((rd Ac Aa) : Int) (rd Ae Aa)) | ((with_reducible refine gate_store (t := 3) (p := 44) rfl ?_); refine store_event (t := 3) (p := 44) (v := ?vo_w28) (w1 := (Co.setCell ⟨Bk, ((rd Ac Aa) : Int).toNat, none⟩ (.int .i64 (rd Ae Aa)))) ?hg ?ho ?hn ?hr ?_; (case ho => rfl); (case hg => rfl); (case hn => rfl); (case hr => first | (go_simp; done) | (go_simp; rfl)); intro Dg hw; have hg : Co.grownBy Dg (some Bk) := (by rw [hw]; exact Cg.2); have hp_ : Kd.R (Kd.int .i64) 3 Dg w.heap.size (fun k_ => some k_ ≠ (.slice (some ad165) Ac.length Br : Value).ownBlock ∧ some k_ ≠ (.slice (some ⟨Ay, 0, none⟩) Aj.length Bj : Value).ownBlock) (.slice (some ⟨Bk, 0, none⟩) Al.length Bo) B6 := (by rw [hw, Cl.out]; exact Cg.1); clear Cg; replace Bg := aM (Kd.R_after (v := (.slice (some ⟨Bk, 0, none⟩) Al.length Bo)) (v1 := (.slice (some ⟨Bk, 0, none⟩) Al.length Bo)) (ok := (fun k_ => some k_ ≠ (.slice (some ⟨Ay, 0, none⟩) Aj.length Bj : Value).ownBlock)) Z102 hg (.inl rfl)); replace Aq := aM (Kd.R_after (v := (.slice (some ⟨Bk, 0, none⟩) Al.length Bo)) (v1 := (.slice (some ⟨Bk, 0, none⟩) Al.length Bo)) (ok := (fun k_ => some k_ ≠ (.slice (some ad165) Ac.length Br : Value).ownBlock)) Z100 hg (.inl rfl)); replace Ab := aM (blk_grown (g := Bf) (o := .cells #[.int .i64 Ah, .int .i64 Ai, .slice (some ad168) Ae.length Aw] 28 (0, 0)) Z12 hg (Kd.R_ne Au.out Ab.out (by decide))); replace Au := aM (hp_); replace HB := aM ((Z197 : Below w.heap.size w Dg)); clear hg hw hp_))
           go_roundg k1
           case measure => have := HK1.out; omega
           case rel => exact ⟨(Bq), (B6), (wrap64 (Aa + 1)), Z14, H', ⟨Z118⟩, ⟨Z101⟩, ⟨Z100⟩, ⟨Z129⟩, ⟨Z12⟩, ⟨Z4⟩⟩
          ·rw [if_neg Cv] at H
           exact absurd H (by simp)
         ·rw [if_neg Cu] at H
          exact absurd H (by simp)
        ·rw [if_neg Ct] at H
         exact absurd H (by simp)
       ·rw [if_neg Cs] at H
        exact absurd H (by simp)
      ·rw [if_neg Cr] at H
       exact absurd H (by simp)
     ·rw [if_neg Ch] at H
      have c14b0 : decide (Aa < (Ac.length : Int)) = false := decide_eq_false Ch; clear Ch
      simp only [Option.some.injEq, Prod.mk.injEq] at H
      obtain ⟨rfl, rfl⟩ := H; obtain ⟨Ds, Dt, Dh⟩ := Kd.R_slice Bg.out; subst Dh
      go_wp2
      go_ret2
      exact ⟨_, _, Z10, Z184, Z185, Z4⟩
  ·rw [if_neg c4] at H
   exact absurd H (by simp)
 ·rw [if_neg c3] at H
  exact absurd H (by simp)
def spec_GreatestArea.l0 : Nat → List Int → Int → Int → Option (Int × Int × Bool)
 | 0, _, _, _ => none
 | k + 1, x5, x7, x8 => if x8 < (x5.length : Int) then (if 0 ≤ x8 then (if 0 ≤ x7 then (if x7 < (x5.length : Int) then (if (rd x5 x8) > (rd x5 x7) then (spec_GreatestArea.l0 k x5 x8 (wrap64 (x8 + 1))) else (spec_GreatestArea.l0 k x5 x7 (wrap64 (x8 + 1)))) else (none)) else (none)) else (none)) else (if 0 ≤ x7 then (if x7 < (x5.length : Int) then (some (x7, rd x5 x7, true)) else (none)) else (none))
def spec_GreatestArea.f (k : Nat) (a0_0 : Int) (a0_1 : Int) (l0_2 : List Int) : Option (Int × Int × Bool) := (spec_l2Good.f k a0_0 a0_1 l0_2).bind fun t171 => (if t171 = true then ((spec_l12Sizes.f k a0_0 a0_1 l0_2).bind fun bt172 => (spec_GreatestArea.l0 k bt172.1 0 1)) else (some (0, 0, false)))
theorem spec_GreatestArea.calls (k : Nat) (Af : Int) (Ag : Int) (Am : Option Addr) (An : Nat) (Ac : List Int) (r1 : Int) (r2 : Int) (r3 : Bool) (w : World) (Bu : Kd.C (Kd.int .i64) w Am Ac.length Ac) (Bv : Ac.length ≤ An) (h : spec_GreatestArea.f k Af Ag Ac = some (r1, r2, r3)) :
  Calls Try.prog 23 #[.agg #[.int .i64 Af, .int .i64 Ag, .slice Am Ac.length An]] w fun e w' => e = .returned (.tuple #[.int .i64 r1, .int .i64 r2, .bool r3]) ∧ Below w.heap.size w w' := by
 have hu28 := Try.underlying28; have Ai := Aside0.mk Bu; have Aj := Aside0.mk Bv; clear Bu Bv; have HB := aM (Below.refl w.heap.size w); have H : ((spec_l2Good.f k Af Ag Ac).bind fun Br => (if Br = true then ((spec_l12Sizes.f k Af Ag Ac).bind fun Ao => (spec_GreatestArea.l0 k Ao.1 0 1)) else (some (0, 0, false)))) = some (r1, r2, r3) := h; clear h; replace H := Option.bind_eq_some_iff.mp H; obtain ⟨Br, Cl, H⟩ := H; replace H : (if Br = true then ((spec_l12Sizes.f k Af Ag Ac).bind fun Ao => (spec_GreatestArea.l0 k Ao.1 0 1)) else (some (0, 0, false))) = some (r1, r2, r3) := H; have A2 := Aside0.mk Cl; clear Cl
 by_cases c3 : Br = true
 ·subst c3
  have H1 : ((spec_l12Sizes.f k Af Ag Ac).bind fun Ao => (spec_GreatestArea.l0 k Ao.1 0 1)) = some (r1, r2, r3) := by rw [if_pos rfl] at H; exact H
  clear H; have H := H1; clear H1; replace H := Option.bind_eq_some_iff.mp H; obtain ⟨⟨Ad, B0⟩, Cm, H⟩ := H; replace H : (spec_GreatestArea.l0 k Ad 0 1) = some (r1, r2, r3) := H; have A4 := Aside0.mk Cm; clear Cm; have H' := Aside0.mk H; clear H
  go_enter Try.func23, Try.ntmps23
  go_wp2_with (first | ((with_reducible refine gate_dst (N := 1) rfl ?_); refine bxE 1 #[.int .i64 Af, .int .i64 Ag, .slice Am Ac.length An] 28 ?_; intro Al hg w5 hbox hb; have Aa := aM (hbox); have Ap := gwS hg Z0; have Ab := gwS hg Z0; replace HB := hbS Z0 hb; clear hb hbox hg; obtain ⟨Aq, Ar, Au⟩ := bz3 Aa; obtain ⟨Aw, Ax, Ay⟩ := fz3 Aa) | (go_at_call 43; (with_reducible refine (spec_l2Good.calls k Af Ag _ _ Ac true _ ?side1 ?side2 A2.out).mono ?_); (case side1 => exact Z56); (case side2 => exact Aj.out); rintro e w7 ⟨rfl, hb⟩; replace Aa := bkB Aa hb; replace HB := hbS Z37 hb; (try clear hb); obtain ⟨Az, Ba, Bb⟩ := bz3 Aa; obtain ⟨Bc, Bd, Bf⟩ := fz3 Aa) | (go_at_call 47; (with_reducible refine (spec_l12Sizes.calls k Af Ag _ _ Ac Ad B0 _ ?side1 ?side2 A4.out).mono ?_); (case side1 => exact Z56); (case side2 => exact Aj.out); rintro e w9 ⟨B2, Cb, rfl, Bw, Bx, hb⟩; have Bq := aM (Kd.R_lower Bw (below_size Z37)); have Bz := aM (Kd.R_lower Bx (below_size Z37)); replace Aa := bkB Aa hb; replace HB := hbS Z37 hb; (try clear hb); (try clear Bw); (try clear Bx)))
  repeat (go_quiet (first | ((with_reducible refine gate_dst (N := 1) rfl ?_); refine bxE 1 #[.int .i64 Af, .int .i64 Ag, .slice Am Ac.length An] 28 ?_; intro Al hg w5 hbox hb; have Aa := aM (hbox); have Ap := gwS hg Z0; have Ab := gwS hg Z0; replace HB := hbS Z0 hb; clear hb hbox hg; obtain ⟨Aq, Ar, Au⟩ := bz3 Aa; obtain ⟨Aw, Ax, Ay⟩ := fz3 Aa) | (go_at_call 43; (with_reducible refine (spec_l2Good.calls k Af Ag _ _ Ac true _ ?side1 ?side2 A2.out).mono ?_); (case side1 => exact Z56); (case side2 => exact Aj.out); rintro e w7 ⟨rfl, hb⟩; replace Aa := bkB Aa hb; replace HB := hbS Z37 hb; (try clear hb); obtain ⟨Az, Ba, Bb⟩ := bz3 Aa; obtain ⟨Bc, Bd, Bf⟩ := fz3 Aa) | (go_at_call 47; (with_reducible refine (spec_l12Sizes.calls k Af Ag _ _ Ac Ad B0 _ ?side1 ?side2 A4.out).mono ?_); (case side1 => exact Z56); (case side2 => exact Aj.out); rintro e w9 ⟨B2, Cb, rfl, Bw, Bx, hb⟩; have Bq := aM (Kd.R_lower Bw (below_size Z37)); have Bz := aM (Kd.R_lower Bx (below_size Z37)); replace Aa := bkB Aa hb; replace HB := hbS Z37 hb; (try clear hb); (try clear Bw); (try clear Bx))); try go_wp2_with (first | ((with_reducible refine gate_dst (N := 1) rfl ?_); refine bxE 1 #[.int .i64 Af, .int .i64 Ag, .slice Am Ac.length An] 28 ?_; intro Al hg w5 hbox hb; have Aa := aM (hbox); have Ap := gwS hg Z0; have Ab := gwS hg Z0; replace HB := hbS Z0 hb; clear hb hbox hg; obtain ⟨Aq, Ar, Au⟩ := bz3 Aa; obtain ⟨Aw, Ax, Ay⟩ := fz3 Aa) | (go_at_call 43; (with_reducible refine (spec_l2Good.calls k Af Ag _ _ Ac true _ ?side1 ?side2 A2.out).mono ?_); (case side1 => exact Z56); (case side2 => exact Aj.out); rintro e w7 ⟨rfl, hb⟩; replace Aa := bkB Aa hb; replace HB := hbS Z37 hb; (try clear hb); obtain ⟨Az, Ba, Bb⟩ := bz3 Aa; obtain ⟨Bc, Bd, Bf⟩ := fz3 Aa) | (go_at_call 47; (with_reducible refine (spec_l12Sizes.calls k Af Ag _ _ Ac Ad B0 _ ?side1 ?side2 A4.out).mono ?_); (case side1 => exact Z56); (case side2 => exact Aj.out); rintro e w9 ⟨B2, Cb, rfl, Bw, Bx, hb⟩; have Bq := aM (Kd.R_lower Bw (below_size Z37)); have Bz := aM (Kd.R_lower Bx (below_size Z37)); replace Aa := bkB Aa hb; replace HB := hbS Z37 hb; (try clear hb); (try clear Bw); (try clear Bx))))
  go_loopg [7, 8] k (fun kq v7 v8 w' => ∃ (Ae : Int) (Ah : Int), v7 = .int .i64 Ae ∧ v8 = .int .i64 Ah ∧ Aside0 (spec_GreatestArea.l0 kq Ad Ae Ah = some (r1, r2, r3)) ∧ Aside0 (kq ≤ k) ∧ Aside0 (Kd.R (Kd.int .i64) 3 w' w.heap.size (fun _ => True) B2 Ad) ∧ Aside0 (w'.heap[Al]? = some (.cells #[.int .i64 Af, .int .i64 Ag, (.slice Am Ac.length An)] 28 (0, 0))) ∧ Aside0 (Below w.heap.size w w'))
  case atStart => exact ⟨(0), (1), Z14, Z14, H', ⟨Nat.le_refl _⟩, ⟨by (with_reducible repeat (first | apply Kd.R_alloc | apply Kd.R_drewN | apply Kd.R_drew)); exact Kd.R_mono Bq.out (fun _ hk => trivial)⟩, ⟨Z25⟩, ⟨Z37⟩⟩
  case round =>
   clear H'; (try clear c2); (try clear p2); (try clear c3); (try clear Aq); (try clear Ar); (try clear Au); (try clear Az); (try clear Ba); (try clear Bb); (try clear Aw); (try clear Ax); (try clear Ay); (try clear Bc); (try clear Bd); (try clear Bf); obtain ⟨Ae, Ah, rfl, rfl, HA, HK1, Ak, Aa, HB⟩ := hrel; cases gk with
   | zero => exact absurd HA.out (by simp [spec_GreatestArea.l0])
   | succ k1 =>
    have H := HA.out; clear HA
    simp only [spec_GreatestArea.l0] at H
    by_cases B7 : Ah < (Ad.length : Int)
    ·rw [if_pos B7] at H
     have c10b0 : decide (Ah < (Ad.length : Int)) = true := decide_eq_true B7; clear B7
     by_cases Cc : 0 ≤ Ah
     ·rw [if_pos Cc] at H
      have c11b0 : decide (0 ≤ Ah) = true := decide_eq_true Cc; clear Cc
      by_cases Cd : 0 ≤ Ae
      ·rw [if_pos Cd] at H
       have c12b0 : decide (0 ≤ Ae) = true := decide_eq_true Cd; clear Cd
       by_cases Ce : Ae < (Ad.length : Int)
       ·rw [if_pos Ce] at H
        have c13b0 : decide (Ae < (Ad.length : Int)) = true := decide_eq_true Ce; clear Ce
        by_cases Ca : (rd Ad Ah) > (rd Ad Ae)
        ·rw [if_pos Ca] at H
         have c14b0 : decide ((rd Ad Ae) < (rd Ad Ah)) = true := decide_eq_true Ca; clear Ca; have H' := Aside0.mk H; clear H; obtain ⟨Cp, Cq, Ci⟩ := Kd.R_slice Ak.out; subst Ci; have Bg : 0 ≤ (Ah : Int) := of_decide_eq_true Z3; have Bh : Ah < (Ad.length : Int) := of_decide_eq_true Z3; obtain ⟨ad178, e178, Bs⟩ := Kd.at_int (Kd.R_reads' Ak.out).2.2 Ah Bg Bh; cases e178; replace Bg := eq_true Bg; replace Bh := eq_true Bh; have Bi : 0 ≤ (Ae : Int) := of_decide_eq_true Z3; have Bj : Ae < (Ad.length : Int) := of_decide_eq_true Z3; obtain ⟨ad179, e179, Bt⟩ := Kd.at_int (Kd.R_reads' Ak.out).2.2 Ae Bi Bj; obtain rfl : ad178 = ad179 := (by injection e179); replace Bi := eq_true Bi; replace Bj := eq_true Bj
         go_wp2
         repeat (go_quiet (fail); try go_wp2)
         go_roundg k1
         case measure => have := HK1.out; omega
         case rel => exact ⟨(Ah), (wrap64 (Ah + 1)), Z14, Z14, H', ⟨Z118⟩, ⟨Z51⟩, ⟨Z25⟩, ⟨Z37⟩⟩
        ·rw [if_neg Ca] at H
         have c14b0 : decide ((rd Ad Ae) < (rd Ad Ah)) = false := decide_eq_false Ca; clear Ca; have H' := Aside0.mk H; clear H; obtain ⟨Cr, Cs, Cj⟩ := Kd.R_slice Ak.out; subst Cj; have Bg : 0 ≤ (Ah : Int) := of_decide_eq_true Z3; have Bh : Ah < (Ad.length : Int) := of_decide_eq_true Z3; obtain ⟨ad178, e178, Bs⟩ := Kd.at_int (Kd.R_reads' Ak.out).2.2 Ah Bg Bh; cases e178; replace Bg := eq_true Bg; replace Bh := eq_true Bh; have Bi : 0 ≤ (Ae : Int) := of_decide_eq_true Z3; have Bj : Ae < (Ad.length : Int) := of_decide_eq_true Z3; obtain ⟨ad179, e179, Bt⟩ := Kd.at_int (Kd.R_reads' Ak.out).2.2 Ae Bi Bj; obtain rfl : ad178 = ad179 := (by injection e179); replace Bi := eq_true Bi; replace Bj := eq_true Bj
         go_wp2
         repeat (go_quiet (fail); try go_wp2)
         go_roundg k1
         case measure => have := HK1.out; omega
         case rel => exact ⟨(Ae), (wrap64 (Ah + 1)), Z14, Z14, H', ⟨Z118⟩, ⟨Z51⟩, ⟨Z25⟩, ⟨Z37⟩⟩
       ·rw [if_neg Ce] at H
        exact absurd H (by simp)
      ·rw [if_neg Cd] at H
       exact absurd H (by simp)
     ·rw [if_neg Cc] at H
      exact absurd H (by simp)
    ·rw [if_neg B7] at H
     have c10b0 : decide (Ah < (Ad.length : Int)) = false := decide_eq_false B7; clear B7
     by_cases Cf : 0 ≤ Ae
     ·rw [if_pos Cf] at H
      have c17b0 : decide (0 ≤ Ae) = true := decide_eq_true Cf; clear Cf
      by_cases Cg : Ae < (Ad.length : Int)
      ·rw [if_pos Cg] at H
       have c18b0 : decide (Ae < (Ad.length : Int)) = true := decide_eq_true Cg; clear Cg
       simp only [Option.some.injEq, Prod.mk.injEq] at H
       obtain ⟨rfl, rfl, rfl⟩ := H; obtain ⟨Ct, Cu, Ck⟩ := Kd.R_slice Ak.out; subst Ck; have B5 : 0 ≤ (Ae : Int) := of_decide_eq_true Z3; have B6 : Ae < (Ad.length : Int) := of_decide_eq_true Z3; obtain ⟨ad180, e180, Ch⟩ := Kd.at_int (Kd.R_reads' Ak.out).2.2 Ae B5 B6; cases e180; replace B5 := eq_true B5; replace B6 := eq_true B6
       go_wp2
       repeat (go_quiet (fail); try go_wp2)
       go_ret3
       exact ⟨Z10, Z37⟩
      ·rw [if_neg Cg] at H
       exact absurd H (by simp)
     ·rw [if_neg Cf] at H
      exact absurd H (by simp)
 ·replace c3 := Bool.eq_false_iff.mpr c3
  subst c3
  have H1 : (some (0, 0, false)) = some (r1, r2, r3) := by rw [if_neg (show ¬ (false = true) by decide)] at H; exact H
  clear H; have H := H1; clear H1
  simp only [Option.some.injEq, Prod.mk.injEq] at H
  obtain ⟨rfl, rfl, rfl⟩ := H
  go_enter Try.func23, Try.ntmps23
  go_wp2_with (first | ((with_reducible refine gate_dst (N := 1) rfl ?_); refine bxE 1 #[.int .i64 Af, .int .i64 Ag, .slice Am Ac.length An] 28 ?_; intro Al hg Cn hbox hb; have Aa := aM (hbox); have Ap := gwS hg Z0; have Ab := gwS hg Z0; replace HB := hbS Z0 hb; clear hb hbox hg; obtain ⟨Bk, Bl, Bm⟩ := bz3 Aa; obtain ⟨Bn, Bo, Bp⟩ := fz3 Aa) | (go_at_call 43; (with_reducible refine (spec_l2Good.calls k Af Ag _ _ Ac false _ ?side1 ?side2 A2.out).mono ?_); (case side1 => exact Z56); (case side2 => exact Aj.out); rintro e Co ⟨rfl, hb⟩; replace Aa := bkB Aa hb; replace HB := hbS Z37 hb; (try clear hb)))
  repeat (go_quiet (first | ((with_reducible refine gate_dst (N := 1) rfl ?_); refine bxE 1 #[.int .i64 Af, .int .i64 Ag, .slice Am Ac.length An] 28 ?_; intro Al hg Cn hbox hb; have Aa := aM (hbox); have Ap := gwS hg Z0; have Ab := gwS hg Z0; replace HB := hbS Z0 hb; clear hb hbox hg; obtain ⟨Bk, Bl, Bm⟩ := bz3 Aa; obtain ⟨Bn, Bo, Bp⟩ := fz3 Aa) | (go_at_call 43; (with_reducible refine (spec_l2Good.calls k Af Ag _ _ Ac false _ ?side1 ?side2 A2.out).mono ?_); (case side1 => exact Z56); (case side2 => exact Aj.out); rintro e Co ⟨rfl, hb⟩; replace Aa := bkB Aa hb; replace HB := hbS Z37 hb; (try clear hb))); try go_wp2_with (first | ((with_reducible refine gate_dst (N := 1) rfl ?_); refine bxE 1 #[.int .i64 Af, .int .i64 Ag, .slice Am Ac.length An] 28 ?_; intro Al hg Cn hbox hb; have Aa := aM (hbox); have Ap := gwS hg Z0; have Ab := gwS hg Z0; replace HB := hbS Z0 hb; clear hb hbox hg; obtain ⟨Bk, Bl, Bm⟩ := bz3 Aa; obtain ⟨Bn, Bo, Bp⟩ := fz3 Aa) | (go_at_call 43; (with_reducible refine (spec_l2Good.calls k Af Ag _ _ Ac false _ ?side1 ?side2 A2.out).mono ?_); (case side1 => exact Z56); (case side2 => exact Aj.out); rintro e Co ⟨rfl, hb⟩; replace Aa := bkB Aa hb; replace HB := hbS Z37 hb; (try clear hb))))
  go_ret3
  exact ⟨Z10, Z37⟩
def impl_in.f (a0 : Int) (a1 : Int) (a2 : Int) : Option (Bool) := if a0 ≥ a1 then (some (decide (a0 ≤ a2))) else (some false)
theorem impl_in.calls (a0 : Int) (a1 : Int) (a2 : Int) (r : Bool) (w : World) (h : impl_in.f a0 a1 a2 = some r) :
  Calls Try.prog 59 #[.int .i64 a0, .int .i64 a1, .int .i64 a2] w fun e w' => e = .returned (.bool r) ∧ Drawn0 w w' := by
 have H : (if a0 ≥ a1 then (some (decide (a0 ≤ a2))) else (some false)) = some r := h; clear h
 by_cases c4 : a0 ≥ a1
 ·rw [if_pos c4] at H
  have c4b0 : decide (a1 ≤ a0) = true := decide_eq_true c4; clear c4; obtain rfl := Option.some.inj H
  go_enter Try.func59, Try.ntmps59
  go_wp2
  go_ret
  exact ⟨Z14, Z44⟩
 ·rw [if_neg c4] at H
  have c4b0 : decide (a1 ≤ a0) = false := decide_eq_false c4; clear c4; obtain rfl := Option.some.inj H
  go_enter Try.func59, Try.ntmps59
  go_wp2
  go_ret
  exact ⟨Z14, Z44⟩
theorem impl_in.eq (a b c : Int) : impl_in.f a b c = some (rng a b c) := by
 unfold impl_in.f rng; by_cases h : b ≤ a <;> simp [h]
def impl_isColor.f (a0 : Int) : Option (Bool) := (impl_in.f a0 0 5).bind fun t181 => (some t181)
theorem impl_isColor.calls (a0 : Int) (r : Bool) (w : World) (h : impl_isColor.f a0 = some r) :
  Calls Try.prog 53 #[.int .i64 a0] w fun e w' => e = .returned (.bool r) ∧ Drawn0 w w' := by
 have H : ((impl_in.f a0 0 5).bind fun Aa => (some Aa)) = some r := h; clear h; replace H := Option.bind_eq_some_iff.mp H; obtain ⟨Aa, Ab, H⟩ := H; replace H : (some Aa) = some r := H; have A2 := Aside0.mk Ab; clear Ab; obtain rfl := Option.some.inj H
 go_enter Try.func53, Try.ntmps53
 go_wp2_with (first | ((with_reducible refine gate_callee (f := 59) rfl ?_); refine glE (some 4) Try.func59 #[.int .i64 a0, .int .i64 0, .int .i64 5] ?_; (with_reducible refine (impl_in.calls a0 0 5 Aa _ A2.out).mono ?_); rintro e w' ⟨rfl, ⟨nd, rfl⟩⟩; refine ⟨_, rfl, ?_⟩))
 go_ret
 exact ⟨Z14, Z44⟩
def impl_isSide.f (a0 : Int) : Option (Bool) := (impl_in.f a0 1 8).bind fun t182 => (some t182)
theorem impl_isSide.calls (a0 : Int) (r : Bool) (w : World) (h : impl_isSide.f a0 = some r) :
  Calls Try.prog 77 #[.int .i64 a0] w fun e w' => e = .returned (.bool r) ∧ Drawn0 w w' := by
 have H : ((impl_in.f a0 1 8).bind fun Aa => (some Aa)) = some r := h; clear h; replace H := Option.bind_eq_some_iff.mp H; obtain ⟨Aa, Ab, H⟩ := H; replace H : (some Aa) = some r := H; have A2 := Aside0.mk Ab; clear Ab; obtain rfl := Option.some.inj H
 go_enter Try.func77, Try.ntmps77
 go_wp2_with (first | ((with_reducible refine gate_callee (f := 59) rfl ?_); refine glE (some 4) Try.func59 #[.int .i64 a0, .int .i64 1, .int .i64 8] ?_; (with_reducible refine (impl_in.calls a0 1 8 Aa _ A2.out).mono ?_); rintro e w' ⟨rfl, ⟨nd, rfl⟩⟩; refine ⟨_, rfl, ?_⟩))
 go_ret
 exact ⟨Z14, Z44⟩
set_option maxHeartbeats 4000000 in
theorem IndexFunc_int (p : Int → Bool) (g : Nat) (lb : Array Value) (A : Option Addr) (c : Nat) (xs : List Int) (w : World)
  (eg : ∀ args w, (callFunc g args).run Try.prog w = .ok (.enter g args) w) (hr : Kd.C (Kd.int .i64) w A xs.length xs)
  (hp : ∀ (W : World) (x : Int), Below w.heap.size w W → Calls Try.prog g (#[.int .i64 x] ++ lb) W fun e w' => e = .returned (.bool (p x)) ∧ Below W.heap.size W w') :
  Calls Try.prog 107 #[.slice A xs.length c, .func (.func g) #[] lb] w fun e w' => e = .returned (.int .i64 (findI p xs)) ∧ Below w.heap.size w w' := by
 have hlen := Aside0.mk hr.2.1; have HR := Aside0.mk hr; have HP := Aside0.mk hp; clear hr hp
 go_enter Try.func107, Try.ntmps107
 go_wp2
 go_loopg [5, 8] xs.length (fun gg _ s8 wr => ∃ x : Int, s8 = .int .i64 x ∧ Aside0 (0 ≤ x ∧ x ≤ (xs.length : Int) ∧ (xs.length : Int) - x ≤ gg) ∧ Aside0 (Below w.heap.size w wr) ∧ Aside0 (∀ j : Nat, (j : Int) < x → p (xs.getD j 0) = false))
 case atStart => exact ⟨0, rfl, ⟨by omega, by omega, by omega⟩, ⟨Below.refl _ _⟩, ⟨fun j hj => absurd hj (by omega)⟩⟩
 case round =>
  obtain ⟨x, rfl, HX, BW, HA⟩ := hrel
  by_cases hlt : x < (xs.length : Int)
  ·have c0 : decide (x < (xs.length : Int)) = true := decide_eq_true hlt
   obtain ⟨ad, e0, Aa⟩ := Kd.at_int (Kd.C_below HR.out BW.out) x HX.out.1 hlt; cases e0; have c1 : decide (0 ≤ x) = true := decide_eq_true HX.out.1; have p0 := eq_true HX.out.1; have p1 := eq_true hlt; have HL := Aside0.mk hlt; clear hlt; have hcall := HP.out _ (rd xs x) BW.out; have hget : Aside0 (xs.getD x.toNat 0 = (rd xs x)) := ⟨rfl⟩; cases hq : p (rd xs x) with
   | true =>
    rw [hq] at hcall; have HQ := Aside0.mk hq; have HC := Aside0.mk hcall; clear hq hcall
    go_wp2_with fail
    refine HC.out.mono ?_; rintro e w' ⟨rfl, hb'⟩; have HB := aM (below_step BW.out hb'); clear hb'
    go_wp2
    go_ret
    refine ⟨?_, HB.out⟩; rw [findI_hit p 0 xs x.toNat (by have := HX.out; have := HL.out; omega) (fun j hj => HA.out j Z196) (by rw [hget.out]; exact HQ.out)]; rw [Int.toNat_of_nonneg HX.out.1]
    rfl
   | false =>
    rw [hq] at hcall; have HQ := Aside0.mk hq; have HC := Aside0.mk hcall; clear hq hcall
    go_wp2_with fail
    refine HC.out.mono ?_; rintro e w' ⟨rfl, hb'⟩; have HB := aM (below_step BW.out hb'); clear hb'
    go_wp2
    have hw1 : wrap64 (x + 1) = x + 1 := by have := HX.out; have := HL.out; have := hlen.out; unfold wrap64; omega
    go_roundg (xs.length - (x.toNat + 1))
    case measure => have := HX.out; have := HL.out; omega
    case rel =>
     refine ⟨x + 1, by first | rfl | rw [hw1] | simp [hw1], ⟨Z196, by have := HL.out; omega, by have := HX.out; have := HL.out; omega⟩, HB, ⟨fun j hj => ?_⟩⟩
     by_cases e : (j : Int) < x
     ·exact HA.out j e
     ·have hj' : j = x.toNat := by have := HX.out; omega
      subst hj'; rw [hget.out]
      exact HQ.out
  ·have c0 : decide (x < (xs.length : Int)) = false := decide_eq_false hlt
   have HL := Aside0.mk hlt; clear hlt
   go_wp2
   go_ret
   refine ⟨?_, BW.out⟩; rw [findI_miss p 0 xs (fun j hj => HA.out j (by have := HL.out; omega))]
   rfl
set_option maxHeartbeats 4000000 in
theorem ContainsFunc_int (p : Int → Bool) (g : Nat) (lb : Array Value) (A : Option Addr) (c : Nat) (xs : List Int) (w : World)
  (eg : ∀ args w, (callFunc g args).run Try.prog w = .ok (.enter g args) w) (hr : Kd.C (Kd.int .i64) w A xs.length xs)
  (hp : ∀ (W : World) (x : Int), Below w.heap.size w W → Calls Try.prog g (#[.int .i64 x] ++ lb) W fun e w' => e = .returned (.bool (p x)) ∧ Below W.heap.size W w') :
  Calls Try.prog 93 #[.slice A xs.length c, .func (.func g) #[] lb] w fun e w' => e = .returned (.bool (xs.any p)) ∧ Below w.heap.size w w' := by
 have HC := aM (IndexFunc_int p g lb A c xs w eg hr hp); clear hr hp eg; rw [← findI_any]
 go_enter Try.func93, Try.ntmps93
 go_wp2_with fail
 refine HC.out.mono ?_; rintro e w' ⟨rfl, hb'⟩
 go_wp2
 go_ret
 exact ⟨Z201, hb'⟩
set_option maxHeartbeats 4000000 in
theorem areAll_int_1 (p : Int → Bool) (g : Nat) (lb : Array Value) (b : Nat) (x : Int) (W : World)
  (eg : ∀ args w, (callFunc g args).run Try.prog w = .ok (.enter g args) w) (hc : W.cell? ⟨b, 0, none⟩ = some (.func (.func g) #[] lb))
  (hp : ∀ W1, Below W.heap.size W W1 → Calls Try.prog g (#[.int .i64 x] ++ lb) W1 fun e w' => e = .returned (.bool (p x)) ∧ Below W1.heap.size W1 w') (hb : b < W.heap.size) :
  Calls Try.prog 94 #[.int .i64 x, .pointer (some ⟨b, 0, none⟩)] W fun e w' => e = .returned (.bool (!p x)) ∧ Below W.heap.size W w' := by
 have HP := Aside0.mk hp; clear hp
 go_enter Try.func94, Try.ntmps94
 go_wp2_with fail
 refine (HP.out _ (Below.refl _ _)).mono ?_; rintro e w' ⟨rfl, hb'⟩
 go_wp2
 go_ret
 exact ⟨Z201, hb'⟩
set_option maxHeartbeats 4000000 in
theorem areAll_int (p : Int → Bool) (g : Nat) (lb : Array Value) (A : Option Addr) (c : Nat) (xs : List Int) (w : World)
  (eg : ∀ args w, (callFunc g args).run Try.prog w = .ok (.enter g args) w) (hr : Kd.C (Kd.int .i64) w A xs.length xs)
  (hp : ∀ (W : World) (x : Int), Below w.heap.size w W → Calls Try.prog g (#[.int .i64 x] ++ lb) W fun e w' => e = .returned (.bool (p x)) ∧ Below W.heap.size W w') :
  Calls Try.prog 78 #[.slice A xs.length c, .func (.func g) #[] lb] w fun e w' => e = .returned (.bool (xs.all p)) ∧ Below w.heap.size w w' := by
 have hmf : ∀ (fn : Fn) (first cap : Array Value) (w : World), (Instr.makeFunc fn first cap).run Try.prog w = .ok (.func fn first cap) w := fun _ _ _ _ => rfl
 have hB1 : Below w.heap.size w (w.alloc (.cells #[.func (.func g) #[] lb] 64)) := below_alloc (Below.refl _ _) _
 have Aa : (w.alloc (.cells #[.func (.func g) #[] lb] 64)).cell? ⟨w.heap.size, 0, none⟩ = some (.func (.func g) #[] lb) := by simp
 have hsz : w.heap.size < (w.alloc (.cells #[.func (.func g) #[] lb] 64)).heap.size := by simp
 have HC := aM (ContainsFunc_int (fun x => !p x) 94 #[.pointer (some ⟨w.heap.size, 0, none⟩)] A c xs (w.alloc (.cells #[.func (.func g) #[] lb] 64)) (enters_of Try.func94 Z61 rfl) (Kd.C_below hr hB1)
  (fun W x hW => areAll_int_1 p g lb w.heap.size x W eg ((hW.cell (p := ⟨w.heap.size, 0, none⟩) hsz).trans Aa) (fun W1 h1 => hp W1 x ((hB1.trans (hW.mono hB1.size)).trans (h1.mono (Nat.le_trans hB1.size hW.size)))) (Nat.lt_of_lt_of_le hsz hW.size)))
 have HB := Aside0.mk hB1; rw [← any_not]; clear hB1 Aa hsz hp hr eg
 go_enter Try.func78, Try.ntmps78
 go_wp2_with fail
 refine HC.out.mono ?_; rintro e w' ⟨rfl, hb'⟩
 go_wp2
 go_ret
 exact ⟨Z201, below_step HB.out hb'⟩
theorem impl_isColor.tot : ∀ x : Int, impl_isColor.f x = some ((fun x : Int => rng x 0 5) x) := fun x => by unfold impl_isColor.f; rw [impl_in.eq]; rfl
def areAll_impl_isColor.f (l0 : List Int) : Option Bool := some (l0.all (fun x : Int => rng x 0 5))
theorem areAll_impl_isColor.calls (A0 : Option Addr) (c0 : Nat) (l0 : List Int) (r : Bool) (w : World) (Aa : Kd.C (Kd.int .i64) w A0 l0.length l0) (Ac : l0.length ≤ c0) (h : areAll_impl_isColor.f l0 = some r) :
  Calls Try.prog 78 #[.slice A0 l0.length c0, .func (.func 53) #[] #[]] w fun e w' => e = .returned (.bool r) ∧ Below w.heap.size w w' := by
 have Ab := Option.some.inj h; subst Ab
 exact areAll_int (fun x : Int => rng x 0 5) 53 #[] A0 c0 l0 w (enters_of Try.func53 Z61 rfl) Aa (fun W x _ => (impl_isColor.calls x _ W (impl_isColor.tot x)).mono fun e w' ⟨he, hd⟩ => ⟨he, by first | exact hd | exact hd.below⟩)
def impl_IsChart.f (a0_0 : Int) (a0_1 : Int) (l0_2 : List Int) : Option (Bool) := (impl_isSide.f a0_0).bind fun t184 => (if t184 = true then ((impl_isSide.f a0_1).bind fun t185 => (if t185 = true then (if (l0_2.length : Int) = (wrap64 (a0_0 * a0_1)) then ((areAll_impl_isColor.f l0_2).bind fun t186 => (some t186)) else (some false)) else (some false))) else (some false))
theorem impl_IsChart.calls (Aa : Int) (Ac : Int) (Ah : Option Addr) (Ai : Nat) (Ab : List Int) (r : Bool) (w : World) (Am : Kd.C (Kd.int .i64) w Ah Ab.length Ab) (An : Ab.length ≤ Ai) (h : impl_IsChart.f Aa Ac Ab = some r) :
  Calls Try.prog 45 #[.agg #[.int .i64 Aa, .int .i64 Ac, .slice Ah Ab.length Ai]] w fun e w' => e = .returned (.bool r) ∧ Below w.heap.size w w' := by
 have hu28 := Try.underlying28; have Ao := Aside0.mk Am; have Ap := Aside0.mk An; clear Am An; have HB := aM (Below.refl w.heap.size w); have H : ((impl_isSide.f Aa).bind fun Al => (if Al = true then ((impl_isSide.f Ac).bind fun Ag => (if Ag = true then (if (Ab.length : Int) = (wrap64 (Aa * Ac)) then ((areAll_impl_isColor.f Ab).bind fun Af => (some Af)) else (some false)) else (some false))) else (some false))) = some r := h; clear h; replace H := Option.bind_eq_some_iff.mp H; obtain ⟨Al, Bs, H⟩ := H; replace H : (if Al = true then ((impl_isSide.f Ac).bind fun Ag => (if Ag = true then (if (Ab.length : Int) = (wrap64 (Aa * Ac)) then ((areAll_impl_isColor.f Ab).bind fun Af => (some Af)) else (some false)) else (some false))) else (some false)) = some r := H; have A2 := Aside0.mk Bs; clear Bs
 by_cases c3 : Al = true
 ·subst c3
  have H1 : ((impl_isSide.f Ac).bind fun Ag => (if Ag = true then (if (Ab.length : Int) = (wrap64 (Aa * Ac)) then ((areAll_impl_isColor.f Ab).bind fun Af => (some Af)) else (some false)) else (some false))) = some r := by rw [if_pos rfl] at H; exact H
  clear H; have H := H1; clear H1; replace H := Option.bind_eq_some_iff.mp H; obtain ⟨Ag, Bt, H⟩ := H; replace H : (if Ag = true then (if (Ab.length : Int) = (wrap64 (Aa * Ac)) then ((areAll_impl_isColor.f Ab).bind fun Af => (some Af)) else (some false)) else (some false)) = some r := H; have A4 := Aside0.mk Bt; clear Bt
  by_cases c5 : Ag = true
  ·subst c5
   have H1 : (if (Ab.length : Int) = (wrap64 (Aa * Ac)) then ((areAll_impl_isColor.f Ab).bind fun Af => (some Af)) else (some false)) = some r := by rw [if_pos rfl] at H; exact H
   clear H; have H := H1; clear H1
   by_cases c6 : (Ab.length : Int) = (wrap64 (Aa * Ac))
   ·rw [if_pos c6] at H
    have c6b0 : ((Ab.length : Int) == (wrap64 (Aa * Ac))) = true := beq_iff_eq.mpr c6; have c6b1 : ((Ab.length : Int) != (wrap64 (Aa * Ac))) = false := bne_eq_false_iff_eq.mpr c6; clear c6; replace H := Option.bind_eq_some_iff.mp H; obtain ⟨Af, Bu, H⟩ := H; replace H : (some Af) = some r := H; have A7 := Aside0.mk Bu; clear Bu; obtain rfl := Option.some.inj H
    go_enter Try.func45, Try.ntmps45
    go_wp2_with (first | ((with_reducible refine gate_dst (N := 1) rfl ?_); (try (refine gate_guard (by rfl) ?_; dsimp only)); refine bxE 1 #[.int .i64 Aa, .int .i64 Ac, .slice Ah Ab.length Ai] 28 ?_; intro Aj hg w8 hbox hb; have Ad := aM (hbox); have Ak := gwS hg Z0; have Ae := gwS hg Z0; replace HB := hbS Z0 hb; clear hb hbox hg; obtain ⟨Bm, Bn, Bo⟩ := bz3 Ad; obtain ⟨Bp, Bq, Br⟩ := fz3 Ad) | ((with_reducible refine gate_callee (f := 77) rfl ?_); refine glE (some 5) Try.func77 #[.int .i64 Aa] ?_; (with_reducible refine (impl_isSide.calls Aa true _ A2.out).mono ?_); rintro e w' ⟨rfl, ⟨nd, rfl⟩⟩; refine ⟨_, rfl, ?_⟩) | (go_at_call 77; (with_reducible refine (impl_isSide.calls Ac true _ A4.out).mono ?_); rintro e w' ⟨rfl, ⟨nd, rfl⟩⟩) | (go_at_call 78; (with_reducible refine (areAll_impl_isColor.calls _ _ Ab Af _ ?side1 ?side2 A7.out).mono ?_); (case side1 => repeat (first | exact (Kd.C_below Ao.out Z9) | (with_reducible refine Kd.C_alloc ?_ _) | (with_reducible refine Kd.C_drewN ?_ _) | (with_reducible refine Kd.C_drew ?_))); (case side2 => exact Ap.out); rintro e Bv ⟨rfl, hb⟩; replace Ad := bkB Ad hb; replace HB := hbS Z9 hb; (try clear hb)))
    go_ret
    exact ⟨Z10, Z9⟩
   ·rw [if_neg c6] at H
    have c6b0 : ((Ab.length : Int) == (wrap64 (Aa * Ac))) = false := beq_eq_false_iff_ne.mpr c6; have c6b1 : ((Ab.length : Int) != (wrap64 (Aa * Ac))) = true := bne_iff_ne.mpr c6; obtain rfl := Option.some.inj H
    go_enter Try.func45, Try.ntmps45
    go_wp2_with (first | ((with_reducible refine gate_dst (N := 1) rfl ?_); (try (refine gate_guard (by rfl) ?_; dsimp only)); refine bxE 1 #[.int .i64 Aa, .int .i64 Ac, .slice Ah Ab.length Ai] 28 ?_; intro Aj hg Bw hbox hb; have Ad := aM (hbox); have Ak := gwS hg Z0; have Ae := gwS hg Z0; replace HB := hbS Z0 hb; clear hb hbox hg; obtain ⟨Aq, Ar, Au⟩ := bz3 Ad; obtain ⟨Aw, Ax, Ay⟩ := fz3 Ad) | ((with_reducible refine gate_callee (f := 77) rfl ?_); refine glE (some 5) Try.func77 #[.int .i64 Aa] ?_; (with_reducible refine (impl_isSide.calls Aa true _ A2.out).mono ?_); rintro e w' ⟨rfl, ⟨nd, rfl⟩⟩; refine ⟨_, rfl, ?_⟩) | (go_at_call 77; (with_reducible refine (impl_isSide.calls Ac true _ A4.out).mono ?_); rintro e w' ⟨rfl, ⟨nd, rfl⟩⟩))
    go_ret
    exact ⟨Z10, Z9⟩
  ·replace c5 := Bool.eq_false_iff.mpr c5
   subst c5
   have H1 : (some false) = some r := by rw [if_neg (show ¬ (false = true) by decide)] at H; exact H
   clear H; have H := H1; clear H1; obtain rfl := Option.some.inj H
   go_enter Try.func45, Try.ntmps45
   go_wp2_with (first | ((with_reducible refine gate_dst (N := 1) rfl ?_); (try (refine gate_guard (by rfl) ?_; dsimp only)); refine bxE 1 #[.int .i64 Aa, .int .i64 Ac, .slice Ah Ab.length Ai] 28 ?_; intro Aj hg Bx hbox hb; have Ad := aM (hbox); have Ak := gwS hg Z0; have Ae := gwS hg Z0; replace HB := hbS Z0 hb; clear hb hbox hg; obtain ⟨Az, Ba, Bb⟩ := bz3 Ad; obtain ⟨Bc, Bd, Bf⟩ := fz3 Ad) | ((with_reducible refine gate_callee (f := 77) rfl ?_); refine glE (some 5) Try.func77 #[.int .i64 Aa] ?_; (with_reducible refine (impl_isSide.calls Aa true _ A2.out).mono ?_); rintro e w' ⟨rfl, ⟨nd, rfl⟩⟩; refine ⟨_, rfl, ?_⟩) | (go_at_call 77; (with_reducible refine (impl_isSide.calls Ac false _ A4.out).mono ?_); rintro e w' ⟨rfl, ⟨nd, rfl⟩⟩))
   go_ret
   exact ⟨Z10, Z9⟩
 ·replace c3 := Bool.eq_false_iff.mpr c3
  subst c3
  have H1 : (some false) = some r := by rw [if_neg (show ¬ (false = true) by decide)] at H; exact H
  clear H; have H := H1; clear H1; obtain rfl := Option.some.inj H
  go_enter Try.func45, Try.ntmps45
  go_wp2_with (first | ((with_reducible refine gate_dst (N := 1) rfl ?_); (try (refine gate_guard (by rfl) ?_; dsimp only)); refine bxE 1 #[.int .i64 Aa, .int .i64 Ac, .slice Ah Ab.length Ai] 28 ?_; intro Aj hg Bz hbox hb; have Ad := aM (hbox); have Ak := gwS hg Z0; have Ae := gwS hg Z0; replace HB := hbS Z0 hb; clear hb hbox hg; obtain ⟨Bg, Bh, Bi⟩ := bz3 Ad; obtain ⟨Bj, Bk, Bl⟩ := fz3 Ad) | ((with_reducible refine gate_callee (f := 77) rfl ?_); refine glE (some 5) Try.func77 #[.int .i64 Aa] ?_; (with_reducible refine (impl_isSide.calls Aa false _ A2.out).mono ?_); rintro e w' ⟨rfl, ⟨nd, rfl⟩⟩; refine ⟨_, rfl, ?_⟩))
  go_ret
  exact ⟨Z10, Z9⟩
def impl_Chart_hasPlace.f (a0_0 : Int) (a0_1 : Int) (l0_2 : List Int) (a1 : Int) (a2 : Int) : Option (Bool) := (impl_in.f a1 0 (wrap64 (a0_1 - 1))).bind fun t188 => (if t188 = true then ((impl_in.f a2 0 (wrap64 (a0_0 - 1))).bind fun t189 => (some t189)) else (some false))
theorem impl_Chart_hasPlace.calls (Ab : Int) (Aa : Int) (Ag : Option Addr) (Ah : Nat) (Ae : List Int) (a1 : Int) (a2 : Int) (r : Bool) (w : World) (Aj : Kd.C (Kd.int .i64) w Ag Ae.length Ae) (Ak : Ae.length ≤ Ah) (h : impl_Chart_hasPlace.f Ab Aa Ae a1 a2 = some r) :
  Calls Try.prog 84 #[.agg #[.int .i64 Ab, .int .i64 Aa, .slice Ag Ae.length Ah], .int .i64 a1, .int .i64 a2] w fun e w' => e = .returned (.bool r) ∧ Below w.heap.size w w' := by
 have hu28 := Try.underlying28; have Bc := Aside0.mk Aj; have Bd := Aside0.mk Ak; clear Aj Ak; have HB := aM (Below.refl w.heap.size w); have H : ((impl_in.f a1 0 (wrap64 (Aa - 1))).bind fun Ai => (if Ai = true then ((impl_in.f a2 0 (wrap64 (Ab - 1))).bind fun Ac => (some Ac)) else (some false))) = some r := h; clear h; replace H := Option.bind_eq_some_iff.mp H; obtain ⟨Ai, Bf, H⟩ := H; replace H : (if Ai = true then ((impl_in.f a2 0 (wrap64 (Ab - 1))).bind fun Ac => (some Ac)) else (some false)) = some r := H; have A4 := Aside0.mk Bf; clear Bf
 by_cases c5 : Ai = true
 ·subst c5
  have H1 : ((impl_in.f a2 0 (wrap64 (Ab - 1))).bind fun Ac => (some Ac)) = some r := by rw [if_pos rfl] at H; exact H
  clear H; have H := H1; clear H1; replace H := Option.bind_eq_some_iff.mp H; obtain ⟨Ac, Bg, H⟩ := H; replace H : (some Ac) = some r := H; have A6 := Aside0.mk Bg; clear Bg; obtain rfl := Option.some.inj H
  go_enter Try.func84, Try.ntmps84
  go_wp2_with (first | ((with_reducible refine gate_dst (N := 3) rfl ?_); refine bxE 3 #[.int .i64 Ab, .int .i64 Aa, .slice Ag Ae.length Ah] 28 ?_; intro Al hg w7 hbox hb; have Ad := aM (hbox); have Am := gwS hg Z0; have Af := gwS hg Z0; replace HB := hbS Z0 hb; clear hb hbox hg; obtain ⟨Aw, Ax, Ay⟩ := bz3 Ad; obtain ⟨Az, Ba, Bb⟩ := fz3 Ad) | ((with_reducible refine gate_callee (f := 59) rfl ?_); refine glE (some 11) Try.func59 #[.int .i64 a1, .int .i64 0, .int .i64 (wrap64 (Aa - 1))] ?_; (with_reducible refine (impl_in.calls a1 0 (wrap64 (Aa - 1)) true _ A4.out).mono ?_); rintro e w' ⟨rfl, ⟨nd, rfl⟩⟩; refine ⟨_, rfl, ?_⟩) | (go_at_call 59; (with_reducible refine (impl_in.calls a2 0 (wrap64 (Ab - 1)) Ac _ A6.out).mono ?_); rintro e w' ⟨rfl, ⟨nd, rfl⟩⟩))
  go_ret
  exact ⟨Z10, Z4⟩
 ·replace c5 := Bool.eq_false_iff.mpr c5
  subst c5
  have H1 : (some false) = some r := by rw [if_neg (show ¬ (false = true) by decide)] at H; exact H
  clear H; have H := H1; clear H1; obtain rfl := Option.some.inj H
  go_enter Try.func84, Try.ntmps84
  go_wp2_with (first | ((with_reducible refine gate_dst (N := 3) rfl ?_); refine bxE 3 #[.int .i64 Ab, .int .i64 Aa, .slice Ag Ae.length Ah] 28 ?_; intro Al hg w9 hbox hb; have Ad := aM (hbox); have Am := gwS hg Z0; have Af := gwS hg Z0; replace HB := hbS Z0 hb; clear hb hbox hg; obtain ⟨An, Ao, Ap⟩ := bz3 Ad; obtain ⟨Aq, Ar, Au⟩ := fz3 Ad) | ((with_reducible refine gate_callee (f := 59) rfl ?_); refine glE (some 11) Try.func59 #[.int .i64 a1, .int .i64 0, .int .i64 (wrap64 (Aa - 1))] ?_; (with_reducible refine (impl_in.calls a1 0 (wrap64 (Aa - 1)) false _ A4.out).mono ?_); rintro e w' ⟨rfl, ⟨nd, rfl⟩⟩; refine ⟨_, rfl, ?_⟩))
  go_ret
  exact ⟨Z10, Z4⟩
def impl_Chart_besides.l0 : Nat → Int → List Int → Int → Int → List (S82) → Int → Int → Int → Int → List Int → Option (List Int)
 | 0, _, _, _, _, _, _, _, _, _, _ => none
 | k + 1, x1, x5, x6, x7, x23, x24, x25, x191000, x191001, x191002 => if x25 < x24 then (if 0 ≤ x25 then (if x25 < (x23.length : Int) then ((impl_Chart_hasPlace.f x191000 x191001 x191002 (wrap64 (x6 + ((rd_T82 x23 x25).f0))) (wrap64 (x7 + ((rd_T82 x23 x25).f1)))).bind fun t199 => (if t199 = true then (if x5.length < 17592186044416 then (impl_Chart_besides.l0 k x1 (x5 ++ [wrap64 ((wrap64 (x1 + (wrap64 (((rd_T82 x23 x25).f0) * x191000)))) + ((rd_T82 x23 x25).f1))]) x6 x7 x23 x24 (wrap64 (x25 + 1)) x191000 x191001 x191002) else (none)) else (impl_Chart_besides.l0 k x1 x5 x6 x7 x23 x24 (wrap64 (x25 + 1)) x191000 x191001 x191002))) else (none)) else (none)) else (some x5)
def impl_Chart_besides.f (k : Nat) (a0_0 : Int) (a0_1 : Int) (l0_2 : List Int) (a1 : Int) : Option (List Int) := if a0_0 = 0 then (none) else ((some (([(⟨(-1), 0⟩ : S82), (⟨0, (-1)⟩ : S82), (⟨0, 1⟩ : S82), (⟨1, 0⟩ : S82)] : List (S82)) : List (S82))).bind fun y194 => (impl_Chart_besides.l0 k a1 (([] : List Int)) (wrap64 (Int.tdiv a1 a0_0)) (Int.tmod a1 a0_0) y194 (y194.length : Int) 0 a0_0 a0_1 l0_2))
theorem impl_Chart_besides.calls (k : Nat) (Ah : Int) (An : Int) (Ap : Option Addr) (Aq : Nat) (Am : List Int) (a1 : Int) (r : List Int) (w : World) (Cv : Kd.C (Kd.int .i64) w Ap Am.length Am) (Cw : Am.length ≤ Aq) (h : impl_Chart_besides.f k Ah An Am a1 = some r) :
  Calls Try.prog 69 #[.agg #[.int .i64 Ah, .int .i64 An, .slice Ap Am.length Aq], .int .i64 a1] w fun e w' => ∃ v0_ : Value, e = .returned (v0_) ∧ Kd.R (Kd.int .i64) 3 w' w.heap.size (fun _ => True) v0_ r ∧ Below w.heap.size w w' := by
 have hu28 := Try.underlying28; have hu82 := Try.underlying82; have Aw := Aside0.mk Cv; have Ax := Aside0.mk Cw; clear Cv Cw; have HB := aM (Below.refl w.heap.size w); have H : (if Ah = 0 then (none) else ((some (([(⟨(-1), 0⟩ : S82), (⟨0, (-1)⟩ : S82), (⟨0, 1⟩ : S82), (⟨1, 0⟩ : S82)] : List (S82)) : List (S82))).bind fun Ac => (impl_Chart_besides.l0 k a1 (([] : List Int)) (wrap64 (Int.tdiv a1 Ah)) (Int.tmod a1 Ah) Ac (Ac.length : Int) 0 Ah An Am))) = some r := h; clear h; obtain ⟨C4, Bb⟩ : ∃ y_ : List Int, y_ = (([] : List Int)) := ⟨_, rfl⟩
 replace H : (if Ah = 0 then (none) else ((some (([(⟨(-1), 0⟩ : S82), (⟨0, (-1)⟩ : S82), (⟨0, 1⟩ : S82), (⟨1, 0⟩ : S82)] : List (S82)) : List (S82))).bind fun Ac => (impl_Chart_besides.l0 k a1 C4 (wrap64 (Int.tdiv a1 Ah)) (Int.tmod a1 Ah) Ac (Ac.length : Int) 0 Ah An Am))) = some r := by first | (rw [Bb]; with_reducible exact H) | (have H2_ := (Option.bind_some _ _).symm.trans H; rw [Bb]; with_reducible exact H2_) | (have H2_ := (Option.bind_some _ _).symm.trans H; with_reducible exact H2_) | with_reducible exact H | (rw [Bb]; exact H) | exact H
 have Ay := Aside0.mk Bb; clear Bb
 by_cases c3 : Ah = 0
 ·rw [if_pos c3] at H
  exact absurd H (by simp)
 ·rw [if_neg c3] at H
  have c3b0 : (Ah == 0) = false := beq_eq_false_iff_ne.mpr c3; have c3b1 : (Ah != 0) = true := bne_iff_ne.mpr c3; obtain ⟨Ac, Bc⟩ : ∃ y_ : List (S82), y_ = (([(⟨(-1), 0⟩ : S82), (⟨0, (-1)⟩ : S82), (⟨0, 1⟩ : S82), (⟨1, 0⟩ : S82)] : List (S82))) := ⟨_, rfl⟩
  replace H : (impl_Chart_besides.l0 k a1 C4 (wrap64 (Int.tdiv a1 Ah)) (Int.tmod a1 Ah) Ac (Ac.length : Int) 0 Ah An Am) = some r := by first | (rw [Bc]; with_reducible exact H) | (have H2_ := (Option.bind_some _ _).symm.trans H; rw [Bc]; with_reducible exact H2_) | (have H2_ := (Option.bind_some _ _).symm.trans H; with_reducible exact H2_) | with_reducible exact H | (rw [Bc]; exact H) | exact H
  have Az := Aside0.mk Bc; clear Bc; have H' := Aside0.mk H; clear H
  go_enter Try.func69, Try.ntmps69
  go_wp2_with (first | ((with_reducible refine gate_dst (N := 2) rfl ?_); refine bxE 2 #[.int .i64 Ah, .int .i64 An, .slice Ap Am.length Aq] 28 ?_; intro Ao hg w4 hbox hb; have Ab := aM (hbox); have Cx := gwS hg Z0; have Af := gwS hg Z0; replace HB := hbS Z0 hb; clear hb hbox hg) | ((with_reducible refine gate_dst (N := 10) rfl ?_); refine Kd.R_lit (Kd.int .i64) _ 3 ?hg (N := 10) ?hd (xs := ([] : List Int)) (inner := []) (ok := fun _ => True) (okp := fun _ => True) ?hr ?hp (fun _ hk => hk) trivial (Below.refl _ _) (Nat.le_refl _) (by simp) ?_; (case hd => rfl); (case hg => rfl); (case hr => first | (go_simp; done) | (go_simp; rfl)); (case hp => exact (Reps.none _ _)); intro C9 w5 Bd hb hg_ hnew_; clear hg_ hnew_; (first | rw [← Ay.out] at Bd | (simp only [Int.reduceToNat] at Bd; rw [← Ay.out] at Bd)); have Au := aM (Kd.R_lower Bd (below_size Z4)); replace Ab := bkB Ab hb; replace HB := hbS Z4 hb; clear hb Bd; obtain ⟨Bi, Bj, Bk⟩ := bz3 Ab; obtain ⟨Bl, Bm, Bn⟩ := fz3 Ab) | ((with_reducible refine gate_dst (N := 23) rfl ?_); refine Kd.R_lit k82 _ 82 ?hg (N := 23) ?hd (xs := ([(⟨(-1), 0⟩ : S82), (⟨0, (-1)⟩ : S82), (⟨0, 1⟩ : S82), (⟨1, 0⟩ : S82)] : List (S82))) (inner := [.int .i64 (-1), .int .i64 0, .int .i64 0, .int .i64 (-1), .int .i64 0, .int .i64 1, .int .i64 1, .int .i64 0]) (ok := fun _ => True) (okp := fun _ => True) ?hr ?hp (fun _ hk => hk) trivial (Below.refl _ _) (Nat.le_refl _) (by simp) ?_; (case hd => rfl); (case hg => rfl); (case hr => first | (go_simp; done) | (go_simp; rfl)); (case hp => exact (Reps.c2 (show Kd.M k82 _ _ _ (⟨(-1), 0⟩ : S82) [.int .i64 (-1), .int .i64 0] from (k82_mkM _ _ _ (⟨(-1), 0⟩ : S82) )) (Reps.c2 (show Kd.M k82 _ _ _ (⟨0, (-1)⟩ : S82) [.int .i64 0, .int .i64 (-1)] from (k82_mkM _ _ _ (⟨0, (-1)⟩ : S82) )) (Reps.c2 (show Kd.M k82 _ _ _ (⟨0, 1⟩ : S82) [.int .i64 0, .int .i64 1] from (k82_mkM _ _ _ (⟨0, 1⟩ : S82) )) (Reps.c2 (show Kd.M k82 _ _ _ (⟨1, 0⟩ : S82) [.int .i64 1, .int .i64 0] from (k82_mkM _ _ _ (⟨1, 0⟩ : S82) )) (Reps.none _ _)))))); intro Da w8 Bf hb hg_ hnew_; clear hg_ hnew_; (first | rw [← Az.out] at Bf | (simp only [Int.reduceToNat] at Bf; rw [← Az.out] at Bf)); replace Au := roB Au hb; have Ba := aM (Kd.R_lower Bf (below_size Z4)); replace Ab := bkB Ab hb; replace HB := hbS Z4 hb; clear hb Bf; obtain ⟨C5, C6, Cq⟩ := Kd.R_slice Ba.out; subst Cq))
  repeat (go_quiet (first | ((with_reducible refine gate_dst (N := 2) rfl ?_); refine bxE 2 #[.int .i64 Ah, .int .i64 An, .slice Ap Am.length Aq] 28 ?_; intro Ao hg w4 hbox hb; have Ab := aM (hbox); have Cx := gwS hg Z0; have Af := gwS hg Z0; replace HB := hbS Z0 hb; clear hb hbox hg) | ((with_reducible refine gate_dst (N := 10) rfl ?_); refine Kd.R_lit (Kd.int .i64) _ 3 ?hg (N := 10) ?hd (xs := ([] : List Int)) (inner := []) (ok := fun _ => True) (okp := fun _ => True) ?hr ?hp (fun _ hk => hk) trivial (Below.refl _ _) (Nat.le_refl _) (by simp) ?_; (case hd => rfl); (case hg => rfl); (case hr => first | (go_simp; done) | (go_simp; rfl)); (case hp => exact (Reps.none _ _)); intro C9 w5 Bd hb hg_ hnew_; clear hg_ hnew_; (first | rw [← Ay.out] at Bd | (simp only [Int.reduceToNat] at Bd; rw [← Ay.out] at Bd)); have Au := aM (Kd.R_lower Bd (below_size Z4)); replace Ab := bkB Ab hb; replace HB := hbS Z4 hb; clear hb Bd; obtain ⟨Bi, Bj, Bk⟩ := bz3 Ab; obtain ⟨Bl, Bm, Bn⟩ := fz3 Ab) | ((with_reducible refine gate_dst (N := 23) rfl ?_); refine Kd.R_lit k82 _ 82 ?hg (N := 23) ?hd (xs := ([(⟨(-1), 0⟩ : S82), (⟨0, (-1)⟩ : S82), (⟨0, 1⟩ : S82), (⟨1, 0⟩ : S82)] : List (S82))) (inner := [.int .i64 (-1), .int .i64 0, .int .i64 0, .int .i64 (-1), .int .i64 0, .int .i64 1, .int .i64 1, .int .i64 0]) (ok := fun _ => True) (okp := fun _ => True) ?hr ?hp (fun _ hk => hk) trivial (Below.refl _ _) (Nat.le_refl _) (by simp) ?_; (case hd => rfl); (case hg => rfl); (case hr => first | (go_simp; done) | (go_simp; rfl)); (case hp => exact (Reps.c2 (show Kd.M k82 _ _ _ (⟨(-1), 0⟩ : S82) [.int .i64 (-1), .int .i64 0] from (k82_mkM _ _ _ (⟨(-1), 0⟩ : S82) )) (Reps.c2 (show Kd.M k82 _ _ _ (⟨0, (-1)⟩ : S82) [.int .i64 0, .int .i64 (-1)] from (k82_mkM _ _ _ (⟨0, (-1)⟩ : S82) )) (Reps.c2 (show Kd.M k82 _ _ _ (⟨0, 1⟩ : S82) [.int .i64 0, .int .i64 1] from (k82_mkM _ _ _ (⟨0, 1⟩ : S82) )) (Reps.c2 (show Kd.M k82 _ _ _ (⟨1, 0⟩ : S82) [.int .i64 1, .int .i64 0] from (k82_mkM _ _ _ (⟨1, 0⟩ : S82) )) (Reps.none _ _)))))); intro Da w8 Bf hb hg_ hnew_; clear hg_ hnew_; (first | rw [← Az.out] at Bf | (simp only [Int.reduceToNat] at Bf; rw [← Az.out] at Bf)); replace Au := roB Au hb; have Ba := aM (Kd.R_lower Bf (below_size Z4)); replace Ab := bkB Ab hb; replace HB := hbS Z4 hb; clear hb Bf; obtain ⟨C5, C6, Cq⟩ := Kd.R_slice Ba.out; subst Cq)); try go_wp2_with (first | ((with_reducible refine gate_dst (N := 2) rfl ?_); refine bxE 2 #[.int .i64 Ah, .int .i64 An, .slice Ap Am.length Aq] 28 ?_; intro Ao hg w4 hbox hb; have Ab := aM (hbox); have Cx := gwS hg Z0; have Af := gwS hg Z0; replace HB := hbS Z0 hb; clear hb hbox hg) | ((with_reducible refine gate_dst (N := 10) rfl ?_); refine Kd.R_lit (Kd.int .i64) _ 3 ?hg (N := 10) ?hd (xs := ([] : List Int)) (inner := []) (ok := fun _ => True) (okp := fun _ => True) ?hr ?hp (fun _ hk => hk) trivial (Below.refl _ _) (Nat.le_refl _) (by simp) ?_; (case hd => rfl); (case hg => rfl); (case hr => first | (go_simp; done) | (go_simp; rfl)); (case hp => exact (Reps.none _ _)); intro C9 w5 Bd hb hg_ hnew_; clear hg_ hnew_; (first | rw [← Ay.out] at Bd | (simp only [Int.reduceToNat] at Bd; rw [← Ay.out] at Bd)); have Au := aM (Kd.R_lower Bd (below_size Z4)); replace Ab := bkB Ab hb; replace HB := hbS Z4 hb; clear hb Bd; obtain ⟨Bi, Bj, Bk⟩ := bz3 Ab; obtain ⟨Bl, Bm, Bn⟩ := fz3 Ab) | ((with_reducible refine gate_dst (N := 23) rfl ?_); refine Kd.R_lit k82 _ 82 ?hg (N := 23) ?hd (xs := ([(⟨(-1), 0⟩ : S82), (⟨0, (-1)⟩ : S82), (⟨0, 1⟩ : S82), (⟨1, 0⟩ : S82)] : List (S82))) (inner := [.int .i64 (-1), .int .i64 0, .int .i64 0, .int .i64 (-1), .int .i64 0, .int .i64 1, .int .i64 1, .int .i64 0]) (ok := fun _ => True) (okp := fun _ => True) ?hr ?hp (fun _ hk => hk) trivial (Below.refl _ _) (Nat.le_refl _) (by simp) ?_; (case hd => rfl); (case hg => rfl); (case hr => first | (go_simp; done) | (go_simp; rfl)); (case hp => exact (Reps.c2 (show Kd.M k82 _ _ _ (⟨(-1), 0⟩ : S82) [.int .i64 (-1), .int .i64 0] from (k82_mkM _ _ _ (⟨(-1), 0⟩ : S82) )) (Reps.c2 (show Kd.M k82 _ _ _ (⟨0, (-1)⟩ : S82) [.int .i64 0, .int .i64 (-1)] from (k82_mkM _ _ _ (⟨0, (-1)⟩ : S82) )) (Reps.c2 (show Kd.M k82 _ _ _ (⟨0, 1⟩ : S82) [.int .i64 0, .int .i64 1] from (k82_mkM _ _ _ (⟨0, 1⟩ : S82) )) (Reps.c2 (show Kd.M k82 _ _ _ (⟨1, 0⟩ : S82) [.int .i64 1, .int .i64 0] from (k82_mkM _ _ _ (⟨1, 0⟩ : S82) )) (Reps.none _ _)))))); intro Da w8 Bf hb hg_ hnew_; clear hg_ hnew_; (first | rw [← Az.out] at Bf | (simp only [Int.reduceToNat] at Bf; rw [← Az.out] at Bf)); replace Au := roB Au hb; have Ba := aM (Kd.R_lower Bf (below_size Z4)); replace Ab := bkB Ab hb; replace HB := hbS Z4 hb; clear hb Bf; obtain ⟨C5, C6, Cq⟩ := Kd.R_slice Ba.out; subst Cq)))
  go_loopg [5, 25] k (fun kq v5 Dn w' => ∃ (Ar : List Int) (Aa : Int), Dn = .int .i64 Aa ∧ Aside0 (impl_Chart_besides.l0 kq a1 Ar (wrap64 (Int.tdiv a1 Ah)) (Int.tmod a1 Ah) Ac (Ac.length : Int) Aa Ah An Am = some r) ∧ Aside0 (kq ≤ k) ∧ Aside0 (Kd.R (Kd.int .i64) 3 w' w.heap.size (fun _ => True) v5 Ar) ∧ Aside0 (Kd.R k82 82 w' w.heap.size (fun _ => True) (.slice C5 Ac.length C6) Ac) ∧ Aside0 (w'.heap[Ao]? = some (.cells #[.int .i64 Ah, .int .i64 An, (.slice Ap Am.length Aq)] 28 (0, 0))) ∧ Aside0 (Below w.heap.size w w'))
  case atStart => exact ⟨(C4), (0), Z14, H', ⟨Nat.le_refl _⟩, ⟨Z129⟩, ⟨Z111⟩, ⟨Z12⟩, ⟨Z4⟩⟩
  case round =>
   clear H'; (try clear c2); (try clear p2); (try clear c3); (try clear c3b0); (try clear c3b1); (try clear c6); (try clear p6); (try clear Bi); (try clear Bj); (try clear Bk); (try clear Bl); (try clear Bm); (try clear Bn); obtain ⟨Ar, Aa, rfl, HA, HK1, Aj, Ai, Ab, HB⟩ := hrel; cases gk with
   | zero => exact absurd HA.out (by simp [impl_Chart_besides.l0])
   | succ k1 =>
    have H := HA.out; clear HA
    simp only [impl_Chart_besides.l0] at H
    by_cases C7 : Aa < (Ac.length : Int)
    ·rw [if_pos C7] at H
     have c11b0 : decide (Aa < (Ac.length : Int)) = true := decide_eq_true C7; clear C7
     by_cases Df : 0 ≤ Aa
     ·rw [if_pos Df] at H
      have c12b0 : decide (0 ≤ Aa) = true := decide_eq_true Df; clear Df
      by_cases Dg : Aa < (Ac.length : Int)
      ·rw [if_pos Dg] at H
       have c13b0 : decide (Aa < (Ac.length : Int)) = true := decide_eq_true Dg; clear Dg; replace H := Option.bind_eq_some_iff.mp H; obtain ⟨Db, Dc, H⟩ := H; replace H : (if Db = true then (if Ar.length < 17592186044416 then (impl_Chart_besides.l0 k1 a1 (Ar ++ [wrap64 ((wrap64 (a1 + (wrap64 (((rd_T82 Ac Aa).f0) * Ah)))) + ((rd_T82 Ac Aa).f1))]) (wrap64 (Int.tdiv a1 Ah)) (Int.tmod a1 Ah) Ac (Ac.length : Int) (wrap64 (Aa + 1)) Ah An Am) else (none)) else (impl_Chart_besides.l0 k1 a1 Ar (wrap64 (Int.tdiv a1 Ah)) (Int.tmod a1 Ah) Ac (Ac.length : Int) (wrap64 (Aa + 1)) Ah An Am)) = some r := H; have C8 := Aside0.mk Dc; clear Dc
       by_cases Dh : Db = true
       ·subst Dh
        have H1 : (if Ar.length < 17592186044416 then (impl_Chart_besides.l0 k1 a1 (Ar ++ [wrap64 ((wrap64 (a1 + (wrap64 (((rd_T82 Ac Aa).f0) * Ah)))) + ((rd_T82 Ac Aa).f1))]) (wrap64 (Int.tdiv a1 Ah)) (Int.tmod a1 Ah) Ac (Ac.length : Int) (wrap64 (Aa + 1)) Ah An Am) else (none)) = some r := by rw [if_pos rfl] at H; exact H
        clear H; have H := H1; clear H1
        by_cases Di : Ar.length < 17592186044416
        ·rw [if_pos Di] at H
         have LMc16 := Aside0.mk Di; clear Di; obtain ⟨Dd, Bg⟩ : ∃ y_ : List Int, y_ = (Ar ++ [wrap64 ((wrap64 (a1 + (wrap64 (((rd_T82 Ac Aa).f0) * Ah)))) + ((rd_T82 Ac Aa).f1))]) := ⟨_, rfl⟩
         replace H : (impl_Chart_besides.l0 k1 a1 Dd (wrap64 (Int.tdiv a1 Ah)) (Int.tmod a1 Ah) Ac (Ac.length : Int) (wrap64 (Aa + 1)) Ah An Am) = some r := by first | (rw [Bg]; with_reducible exact H) | (have H2_ := (Option.bind_some _ _).symm.trans H; rw [Bg]; with_reducible exact H2_) | (have H2_ := (Option.bind_some _ _).symm.trans H; with_reducible exact H2_) | with_reducible exact H | (rw [Bg]; exact H) | exact H
         have Cr := Aside0.mk Bg; clear Bg; have H' := Aside0.mk H; clear H; have Bo : 0 ≤ (Aa : Int) := of_decide_eq_true Z3; have Bp : Aa < (Ac.length : Int) := of_decide_eq_true Z3; obtain ⟨ad197, e197, Ct, Cu⟩ := at_T82 (Kd.R_reads' Ai.out).2.2 Aa Bo Bp; cases e197; replace Bo := eq_true Bo; replace Bp := eq_true Bp
         go_wp2_with (first | ((with_reducible refine gate_dst (N := 9) rfl ?_); refine bxE 9 #[.int .i64 0, .int .i64 0] 82 ?_; intro Ad hg Dj hbox hb; replace Aj := roB Aj hb; replace Ai := aM (Kd.R_below (Kd.R_elderB Z53 Ad (Nat.le_of_eq hg.symm)) hb); have Ag := aM (hbox); have Bh := gwS hg Z4; have Al := gwS hg Z4; replace HB := hbS Z4 hb; have Ae := nbL hg Ab; have Ak := nbG hg Ab; replace Ab := bkB Ab hb; clear hb hbox hg; have Cy := Ak.out; have Cz := Ae.out; obtain ⟨Bq, Br⟩ := bz2 Ag; obtain ⟨Bs, Bt⟩ := fz2 Ag; obtain ⟨Bu, Bv, Bw⟩ := bz3 Ab; obtain ⟨Bx, Bz, B0⟩ := fz3 Ab) | (go_at_call 84; (with_reducible refine (impl_Chart_hasPlace.calls Ah An _ _ Am (wrap64 ((wrap64 (Int.tdiv a1 Ah)) + ((rd_T82 Ac Aa).f0))) (wrap64 ((Int.tmod a1 Ah) + ((rd_T82 Ac Aa).f1))) true _ ?side1 ?side2 C8.out).mono ?_); (case side1 => exact Kd.C_below Aw.out Z30); (case side2 => exact Ax.out); rintro e C0 ⟨rfl, hb⟩; replace Aj := aM (Kd.R_below (by (with_reducible repeat (first | apply Kd.R_alloc | apply Kd.R_drewN | apply Kd.R_drew)); exact (Kd.R_mono (Kd.R_far (p := ⟨Ad, 1, none⟩) (Kd.R_far (p := ⟨Ad, 0, none⟩) (Kd.R_types Aj.out Ag.out (by decide)) (fun _ hk => hk.2) (.int .i64 ((rd_T82 Ac Aa).f0))) (fun _ hk => hk.2) (.int .i64 ((rd_T82 Ac Aa).f1))) (fun _ h_ => h_.1))) hb); replace Ai := aM (Kd.R_below Z45 hb); replace Ab := aM (blk_below (g := Ao) (o := .cells #[.int .i64 Ah, .int .i64 An, .slice Ap Am.length Aq] 28 (0, 0)) Z43 hb); replace Ag := aM (blk_below (g := Ad) (o := .cells #[.int .i64 ((rd_T82 Ac Aa).f0), .int .i64 ((rd_T82 Ac Aa).f1)] 82 (0, 0)) Z41 hb); replace HB := hbS Z30 hb; (try clear hb); have B2 : C0.cell? ⟨Ad, 0, none⟩ = some (.int .i64 ((rd_T82 Ac Aa).f0)) := (blk_cell Ag.out 0).trans rfl; have B5 : C0.cell? ⟨Ad, 1, none⟩ = some (.int .i64 ((rd_T82 Ac Aa).f1)) := (blk_cell Ag.out 1).trans rfl; obtain ⟨B6, B7⟩ := fz2 Ag; obtain ⟨Ca, Cb, Cc⟩ := bz3 Ab; obtain ⟨Cd, Ce, Cf⟩ := fz3 Ab) | ((with_reducible refine gate_builtin (b := .append) (xs := #[.tmp 39, .tmp 50]) rfl ?_); at_builtin; refine Kd.R_append (Kd.int .i64) (w0 := w) w.heap.size rfl (.tmp 39) (.tmp 50) 22 3 (.int .i64 0) 8 rfl Try.underlying22 info3 rfl (by decide) (by omega) u5 Ar (wrap64 ((wrap64 (a1 + (wrap64 (((rd_T82 Ac Aa).f0) * Ah)))) + ((rd_T82 Ac Aa).f1))) [.int .i64 (wrap64 ((wrap64 (a1 + (wrap64 (((rd_T82 Ac Aa).f0) * Ah)))) + ((rd_T82 Ac Aa).f1)))] (fun _ => True) (fun _ => False) rfl rfl ?aP (fun _ hk => hk.elim) ?aF ?aO ?aB ?aS ?aL ?_; (case aP => exact rfl); (case aB => exact Z30); (case aF => exact (fun _ _ => trivial)); (case aO => exact Z39); (case aS => exact (below_size Z30)); (case aL => have := LMc16.out; omega); intro De Dk ho hb hg hat; rw [← Cr.out] at ho; replace Ai := aM (Kd.R_over' Z53 (Kd.R_typed Z39) (by decide) hg); replace Ab := aM (blk_grown (g := Ao) (o := .cells #[.int .i64 Ah, .int .i64 An, .slice Ap Am.length Aq] 28 (0, 0)) Z12 hg (Kd.R_ne Aj.out Ab.out (by decide))); replace Ag := aM (blk_grown (g := Ad) (o := .cells #[.int .i64 ((rd_T82 Ac Aa).f0), .int .i64 ((rd_T82 Ac Aa).f1)] 82 (0, 0)) Z75 hg (Kd.R_ne Aj.out Ag.out (by decide))); replace HB := aM (hb); have Cs := aM (ho); clear Aj; clear ho hb hg hat))
         repeat (go_quiet (first | ((with_reducible refine gate_dst (N := 9) rfl ?_); refine bxE 9 #[.int .i64 0, .int .i64 0] 82 ?_; intro Ad hg Dj hbox hb; replace Aj := roB Aj hb; replace Ai := aM (Kd.R_below (Kd.R_elderB Z53 Ad (Nat.le_of_eq hg.symm)) hb); have Ag := aM (hbox); have Bh := gwS hg Z4; have Al := gwS hg Z4; replace HB := hbS Z4 hb; have Ae := nbL hg Ab; have Ak := nbG hg Ab; replace Ab := bkB Ab hb; clear hb hbox hg; have Cy := Ak.out; have Cz := Ae.out; obtain ⟨Bq, Br⟩ := bz2 Ag; obtain ⟨Bs, Bt⟩ := fz2 Ag; obtain ⟨Bu, Bv, Bw⟩ := bz3 Ab; obtain ⟨Bx, Bz, B0⟩ := fz3 Ab) | (go_at_call 84; (with_reducible refine (impl_Chart_hasPlace.calls Ah An _ _ Am (wrap64 ((wrap64 (Int.tdiv a1 Ah)) + ((rd_T82 Ac Aa).f0))) (wrap64 ((Int.tmod a1 Ah) + ((rd_T82 Ac Aa).f1))) true _ ?side1 ?side2 C8.out).mono ?_); (case side1 => exact Kd.C_below Aw.out Z30); (case side2 => exact Ax.out); rintro e C0 ⟨rfl, hb⟩; replace Aj := aM (Kd.R_below (by (with_reducible repeat (first | apply Kd.R_alloc | apply Kd.R_drewN | apply Kd.R_drew)); exact (Kd.R_mono (Kd.R_far (p := ⟨Ad, 1, none⟩) (Kd.R_far (p := ⟨Ad, 0, none⟩) (Kd.R_types Aj.out Ag.out (by decide)) (fun _ hk => hk.2) (.int .i64 ((rd_T82 Ac Aa).f0))) (fun _ hk => hk.2) (.int .i64 ((rd_T82 Ac Aa).f1))) (fun _ h_ => h_.1))) hb); replace Ai := aM (Kd.R_below Z45 hb); replace Ab := aM (blk_below (g := Ao) (o := .cells #[.int .i64 Ah, .int .i64 An, .slice Ap Am.length Aq] 28 (0, 0)) Z43 hb); replace Ag := aM (blk_below (g := Ad) (o := .cells #[.int .i64 ((rd_T82 Ac Aa).f0), .int .i64 ((rd_T82 Ac Aa).f1)] 82 (0, 0)) Z41 hb); replace HB := hbS Z30 hb; (try clear hb); have B2 : C0.cell? ⟨Ad, 0, none⟩ = some (.int .i64 ((rd_T82 Ac Aa).f0)) := (blk_cell Ag.out 0).trans rfl; have B5 : C0.cell? ⟨Ad, 1, none⟩ = some (.int .i64 ((rd_T82 Ac Aa).f1)) := (blk_cell Ag.out 1).trans rfl; obtain ⟨B6, B7⟩ := fz2 Ag; obtain ⟨Ca, Cb, Cc⟩ := bz3 Ab; obtain ⟨Cd, Ce, Cf⟩ := fz3 Ab) | ((with_reducible refine gate_builtin (b := .append) (xs := #[.tmp 39, .tmp 50]) rfl ?_); at_builtin; refine Kd.R_append (Kd.int .i64) (w0 := w) w.heap.size rfl (.tmp 39) (.tmp 50) 22 3 (.int .i64 0) 8 rfl Try.underlying22 info3 rfl (by decide) (by omega) u5 Ar (wrap64 ((wrap64 (a1 + (wrap64 (((rd_T82 Ac Aa).f0) * Ah)))) + ((rd_T82 Ac Aa).f1))) [.int .i64 (wrap64 ((wrap64 (a1 + (wrap64 (((rd_T82 Ac Aa).f0) * Ah)))) + ((rd_T82 Ac Aa).f1)))] (fun _ => True) (fun _ => False) rfl rfl ?aP (fun _ hk => hk.elim) ?aF ?aO ?aB ?aS ?aL ?_; (case aP => exact rfl); (case aB => exact Z30); (case aF => exact (fun _ _ => trivial)); (case aO => exact Z39); (case aS => exact (below_size Z30)); (case aL => have := LMc16.out; omega); intro De Dk ho hb hg hat; rw [← Cr.out] at ho; replace Ai := aM (Kd.R_over' Z53 (Kd.R_typed Z39) (by decide) hg); replace Ab := aM (blk_grown (g := Ao) (o := .cells #[.int .i64 Ah, .int .i64 An, .slice Ap Am.length Aq] 28 (0, 0)) Z12 hg (Kd.R_ne Aj.out Ab.out (by decide))); replace Ag := aM (blk_grown (g := Ad) (o := .cells #[.int .i64 ((rd_T82 Ac Aa).f0), .int .i64 ((rd_T82 Ac Aa).f1)] 82 (0, 0)) Z75 hg (Kd.R_ne Aj.out Ag.out (by decide))); replace HB := aM (hb); have Cs := aM (ho); clear Aj; clear ho hb hg hat)); try go_wp2_with (first | ((with_reducible refine gate_dst (N := 9) rfl ?_); refine bxE 9 #[.int .i64 0, .int .i64 0] 82 ?_; intro Ad hg Dj hbox hb; replace Aj := roB Aj hb; replace Ai := aM (Kd.R_below (Kd.R_elderB Z53 Ad (Nat.le_of_eq hg.symm)) hb); have Ag := aM (hbox); have Bh := gwS hg Z4; have Al := gwS hg Z4; replace HB := hbS Z4 hb; have Ae := nbL hg Ab; have Ak := nbG hg Ab; replace Ab := bkB Ab hb; clear hb hbox hg; have Cy := Ak.out; have Cz := Ae.out; obtain ⟨Bq, Br⟩ := bz2 Ag; obtain ⟨Bs, Bt⟩ := fz2 Ag; obtain ⟨Bu, Bv, Bw⟩ := bz3 Ab; obtain ⟨Bx, Bz, B0⟩ := fz3 Ab) | (go_at_call 84; (with_reducible refine (impl_Chart_hasPlace.calls Ah An _ _ Am (wrap64 ((wrap64 (Int.tdiv a1 Ah)) + ((rd_T82 Ac Aa).f0))) (wrap64 ((Int.tmod a1 Ah) + ((rd_T82 Ac Aa).f1))) true _ ?side1 ?side2 C8.out).mono ?_); (case side1 => exact Kd.C_below Aw.out Z30); (case side2 => exact Ax.out); rintro e C0 ⟨rfl, hb⟩; replace Aj := aM (Kd.R_below (by (with_reducible repeat (first | apply Kd.R_alloc | apply Kd.R_drewN | apply Kd.R_drew)); exact (Kd.R_mono (Kd.R_far (p := ⟨Ad, 1, none⟩) (Kd.R_far (p := ⟨Ad, 0, none⟩) (Kd.R_types Aj.out Ag.out (by decide)) (fun _ hk => hk.2) (.int .i64 ((rd_T82 Ac Aa).f0))) (fun _ hk => hk.2) (.int .i64 ((rd_T82 Ac Aa).f1))) (fun _ h_ => h_.1))) hb); replace Ai := aM (Kd.R_below Z45 hb); replace Ab := aM (blk_below (g := Ao) (o := .cells #[.int .i64 Ah, .int .i64 An, .slice Ap Am.length Aq] 28 (0, 0)) Z43 hb); replace Ag := aM (blk_below (g := Ad) (o := .cells #[.int .i64 ((rd_T82 Ac Aa).f0), .int .i64 ((rd_T82 Ac Aa).f1)] 82 (0, 0)) Z41 hb); replace HB := hbS Z30 hb; (try clear hb); have B2 : C0.cell? ⟨Ad, 0, none⟩ = some (.int .i64 ((rd_T82 Ac Aa).f0)) := (blk_cell Ag.out 0).trans rfl; have B5 : C0.cell? ⟨Ad, 1, none⟩ = some (.int .i64 ((rd_T82 Ac Aa).f1)) := (blk_cell Ag.out 1).trans rfl; obtain ⟨B6, B7⟩ := fz2 Ag; obtain ⟨Ca, Cb, Cc⟩ := bz3 Ab; obtain ⟨Cd, Ce, Cf⟩ := fz3 Ab) | ((with_reducible refine gate_builtin (b := .append) (xs := #[.tmp 39, .tmp 50]) rfl ?_); at_builtin; refine Kd.R_append (Kd.int .i64) (w0 := w) w.heap.size rfl (.tmp 39) (.tmp 50) 22 3 (.int .i64 0) 8 rfl Try.underlying22 info3 rfl (by decide) (by omega) u5 Ar (wrap64 ((wrap64 (a1 + (wrap64 (((rd_T82 Ac Aa).f0) * Ah)))) + ((rd_T82 Ac Aa).f1))) [.int .i64 (wrap64 ((wrap64 (a1 + (wrap64 (((rd_T82 Ac Aa).f0) * Ah)))) + ((rd_T82 Ac Aa).f1)))] (fun _ => True) (fun _ => False) rfl rfl ?aP (fun _ hk => hk.elim) ?aF ?aO ?aB ?aS ?aL ?_; (case aP => exact rfl); (case aB => exact Z30); (case aF => exact (fun _ _ => trivial)); (case aO => exact Z39); (case aS => exact (below_size Z30)); (case aL => have := LMc16.out; omega); intro De Dk ho hb hg hat; rw [← Cr.out] at ho; replace Ai := aM (Kd.R_over' Z53 (Kd.R_typed Z39) (by decide) hg); replace Ab := aM (blk_grown (g := Ao) (o := .cells #[.int .i64 Ah, .int .i64 An, .slice Ap Am.length Aq] 28 (0, 0)) Z12 hg (Kd.R_ne Aj.out Ab.out (by decide))); replace Ag := aM (blk_grown (g := Ad) (o := .cells #[.int .i64 ((rd_T82 Ac Aa).f0), .int .i64 ((rd_T82 Ac Aa).f1)] 82 (0, 0)) Z75 hg (Kd.R_ne Aj.out Ag.out (by decide))); replace HB := aM (hb); have Cs := aM (ho); clear Aj; clear ho hb hg hat)))
         go_roundg k1
         case measure => have := HK1.out; omega
         case rel => exact ⟨(Dd), (wrap64 (Aa + 1)), Z14, H', ⟨Z118⟩, ⟨Z188⟩, ⟨Z182⟩, ⟨Z12⟩, ⟨Z30⟩⟩
        ·rw [if_neg Di] at H
         exact absurd H (by simp)
       ·replace Dh := Bool.eq_false_iff.mpr Dh
        subst Dh
        have H1 : (impl_Chart_besides.l0 k1 a1 Ar (wrap64 (Int.tdiv a1 Ah)) (Int.tmod a1 Ah) Ac (Ac.length : Int) (wrap64 (Aa + 1)) Ah An Am) = some r := by rw [if_neg (show ¬ (false = true) by decide)] at H; exact H
        clear H; have H := H1; clear H1; have H' := Aside0.mk H; clear H; have Bo : 0 ≤ (Aa : Int) := of_decide_eq_true Z3; have Bp : Aa < (Ac.length : Int) := of_decide_eq_true Z3; obtain ⟨ad197, e197, Ct, Cu⟩ := at_T82 (Kd.R_reads' Ai.out).2.2 Aa Bo Bp; cases e197; replace Bo := eq_true Bo; replace Bp := eq_true Bp
        go_wp2_with (first | ((with_reducible refine gate_dst (N := 9) rfl ?_); refine bxE 9 #[.int .i64 0, .int .i64 0] 82 ?_; intro Ad hg Dl hbox hb; replace Aj := roB Aj hb; replace Ai := aM (Kd.R_below (Kd.R_elderB Z53 Ad (Nat.le_of_eq hg.symm)) hb); have Ag := aM (hbox); have Bh := gwS hg Z4; have Al := gwS hg Z4; replace HB := hbS Z4 hb; have Ae := nbL hg Ab; have Ak := nbG hg Ab; replace Ab := bkB Ab hb; clear hb hbox hg; have C1 := Ak.out; have C3 := Ae.out; obtain ⟨Cg, Ch⟩ := bz2 Ag; obtain ⟨Ci, Cj⟩ := fz2 Ag; obtain ⟨Ck, Cl, Cm⟩ := bz3 Ab; obtain ⟨Cn, Co, Cp⟩ := fz3 Ab) | (go_at_call 84; (with_reducible refine (impl_Chart_hasPlace.calls Ah An _ _ Am (wrap64 ((wrap64 (Int.tdiv a1 Ah)) + ((rd_T82 Ac Aa).f0))) (wrap64 ((Int.tmod a1 Ah) + ((rd_T82 Ac Aa).f1))) false _ ?side1 ?side2 C8.out).mono ?_); (case side1 => exact Kd.C_below Aw.out Z30); (case side2 => exact Ax.out); rintro e Dm ⟨rfl, hb⟩; replace Aj := aM (Kd.R_below (by (with_reducible repeat (first | apply Kd.R_alloc | apply Kd.R_drewN | apply Kd.R_drew)); exact (Kd.R_mono (Kd.R_far (p := ⟨Ad, 1, none⟩) (Kd.R_far (p := ⟨Ad, 0, none⟩) (Kd.R_types Aj.out Ag.out (by decide)) (fun _ hk => hk.2) (.int .i64 ((rd_T82 Ac Aa).f0))) (fun _ hk => hk.2) (.int .i64 ((rd_T82 Ac Aa).f1))) (fun _ h_ => h_.1))) hb); replace Ai := aM (Kd.R_below Z45 hb); replace Ab := aM (blk_below (g := Ao) (o := .cells #[.int .i64 Ah, .int .i64 An, .slice Ap Am.length Aq] 28 (0, 0)) Z43 hb); replace Ag := aM (blk_below (g := Ad) (o := .cells #[.int .i64 ((rd_T82 Ac Aa).f0), .int .i64 ((rd_T82 Ac Aa).f1)] 82 (0, 0)) Z41 hb); replace HB := hbS Z30 hb; (try clear hb)))
        repeat (go_quiet (first | ((with_reducible refine gate_dst (N := 9) rfl ?_); refine bxE 9 #[.int .i64 0, .int .i64 0] 82 ?_; intro Ad hg Dl hbox hb; replace Aj := roB Aj hb; replace Ai := aM (Kd.R_below (Kd.R_elderB Z53 Ad (Nat.le_of_eq hg.symm)) hb); have Ag := aM (hbox); have Bh := gwS hg Z4; have Al := gwS hg Z4; replace HB := hbS Z4 hb; have Ae := nbL hg Ab; have Ak := nbG hg Ab; replace Ab := bkB Ab hb; clear hb hbox hg; have C1 := Ak.out; have C3 := Ae.out; obtain ⟨Cg, Ch⟩ := bz2 Ag; obtain ⟨Ci, Cj⟩ := fz2 Ag; obtain ⟨Ck, Cl, Cm⟩ := bz3 Ab; obtain ⟨Cn, Co, Cp⟩ := fz3 Ab) | (go_at_call 84; (with_reducible refine (impl_Chart_hasPlace.calls Ah An _ _ Am (wrap64 ((wrap64 (Int.tdiv a1 Ah)) + ((rd_T82 Ac Aa).f0))) (wrap64 ((Int.tmod a1 Ah) + ((rd_T82 Ac Aa).f1))) false _ ?side1 ?side2 C8.out).mono ?_); (case side1 => exact Kd.C_below Aw.out Z30); (case side2 => exact Ax.out); rintro e Dm ⟨rfl, hb⟩; replace Aj := aM (Kd.R_below (by (with_reducible repeat (first | apply Kd.R_alloc | apply Kd.R_drewN | apply Kd.R_drew)); exact (Kd.R_mono (Kd.R_far (p := ⟨Ad, 1, none⟩) (Kd.R_far (p := ⟨Ad, 0, none⟩) (Kd.R_types Aj.out Ag.out (by decide)) (fun _ hk => hk.2) (.int .i64 ((rd_T82 Ac Aa).f0))) (fun _ hk => hk.2) (.int .i64 ((rd_T82 Ac Aa).f1))) (fun _ h_ => h_.1))) hb); replace Ai := aM (Kd.R_below Z45 hb); replace Ab := aM (blk_below (g := Ao) (o := .cells #[.int .i64 Ah, .int .i64 An, .slice Ap Am.length Aq] 28 (0, 0)) Z43 hb); replace Ag := aM (blk_below (g := Ad) (o := .cells #[.int .i64 ((rd_T82 Ac Aa).f0), .int .i64 ((rd_T82 Ac Aa).f1)] 82 (0, 0)) Z41 hb); replace HB := hbS Z30 hb; (try clear hb))); try go_wp2_with (first | ((with_reducible refine gate_dst (N := 9) rfl ?_); refine bxE 9 #[.int .i64 0, .int .i64 0] 82 ?_; intro Ad hg Dl hbox hb; replace Aj := roB Aj hb; replace Ai := aM (Kd.R_below (Kd.R_elderB Z53 Ad (Nat.le_of_eq hg.symm)) hb); have Ag := aM (hbox); have Bh := gwS hg Z4; have Al := gwS hg Z4; replace HB := hbS Z4 hb; have Ae := nbL hg Ab; have Ak := nbG hg Ab; replace Ab := bkB Ab hb; clear hb hbox hg; have C1 := Ak.out; have C3 := Ae.out; obtain ⟨Cg, Ch⟩ := bz2 Ag; obtain ⟨Ci, Cj⟩ := fz2 Ag; obtain ⟨Ck, Cl, Cm⟩ := bz3 Ab; obtain ⟨Cn, Co, Cp⟩ := fz3 Ab) | (go_at_call 84; (with_reducible refine (impl_Chart_hasPlace.calls Ah An _ _ Am (wrap64 ((wrap64 (Int.tdiv a1 Ah)) + ((rd_T82 Ac Aa).f0))) (wrap64 ((Int.tmod a1 Ah) + ((rd_T82 Ac Aa).f1))) false _ ?side1 ?side2 C8.out).mono ?_); (case side1 => exact Kd.C_below Aw.out Z30); (case side2 => exact Ax.out); rintro e Dm ⟨rfl, hb⟩; replace Aj := aM (Kd.R_below (by (with_reducible repeat (first | apply Kd.R_alloc | apply Kd.R_drewN | apply Kd.R_drew)); exact (Kd.R_mono (Kd.R_far (p := ⟨Ad, 1, none⟩) (Kd.R_far (p := ⟨Ad, 0, none⟩) (Kd.R_types Aj.out Ag.out (by decide)) (fun _ hk => hk.2) (.int .i64 ((rd_T82 Ac Aa).f0))) (fun _ hk => hk.2) (.int .i64 ((rd_T82 Ac Aa).f1))) (fun _ h_ => h_.1))) hb); replace Ai := aM (Kd.R_below Z45 hb); replace Ab := aM (blk_below (g := Ao) (o := .cells #[.int .i64 Ah, .int .i64 An, .slice Ap Am.length Aq] 28 (0, 0)) Z43 hb); replace Ag := aM (blk_below (g := Ad) (o := .cells #[.int .i64 ((rd_T82 Ac Aa).f0), .int .i64 ((rd_T82 Ac Aa).f1)] 82 (0, 0)) Z41 hb); replace HB := hbS Z30 hb; (try clear hb))))
        go_roundg k1
        case measure => have := HK1.out; omega
        case rel => exact ⟨(Ar), (wrap64 (Aa + 1)), Z14, H', ⟨Z118⟩, ⟨Z39⟩, ⟨Z182⟩, ⟨Z12⟩, ⟨Z30⟩⟩
      ·rw [if_neg Dg] at H
       exact absurd H (by simp)
     ·rw [if_neg Df] at H
      exact absurd H (by simp)
    ·rw [if_neg C7] at H
     have c11b0 : decide (Aa < (Ac.length : Int)) = false := decide_eq_false C7; clear C7; obtain rfl := Option.some.inj H
     go_wp2
     repeat (go_quiet (fail); try go_wp2)
     go_ret
     exact ⟨_, Z10, Z39, Z4⟩
def bits_Mul64.f (a0 : Int) (a1 : Int) : Option (Int × Int) := some (IntKind.u64.wrap ((IntKind.u64.wrap ((IntKind.u64.wrap ((a0 / 4294967296) * (a1 / 4294967296))) + ((IntKind.u64.wrap ((IntKind.u64.wrap ((a0 / 4294967296) * (Go.bits .and .u64 a1 4294967295))) + ((IntKind.u64.wrap ((Go.bits .and .u64 a0 4294967295) * (Go.bits .and .u64 a1 4294967295))) / 4294967296))) / 4294967296))) + ((IntKind.u64.wrap ((Go.bits .and .u64 (IntKind.u64.wrap ((IntKind.u64.wrap ((a0 / 4294967296) * (Go.bits .and .u64 a1 4294967295))) + ((IntKind.u64.wrap ((Go.bits .and .u64 a0 4294967295) * (Go.bits .and .u64 a1 4294967295))) / 4294967296))) 4294967295) + (IntKind.u64.wrap ((Go.bits .and .u64 a0 4294967295) * (a1 / 4294967296))))) / 4294967296)), IntKind.u64.wrap (a0 * a1))
theorem bits_Mul64.calls (a0 : Int) (a1 : Int) (r1 : Int) (r2 : Int) (w : World) (h : bits_Mul64.f a0 a1 = some (r1, r2)) :
  Calls Try.prog 109 #[.int .u64 a0, .int .u64 a1] w fun e w' => e = .returned (.tuple #[.int .u64 r1, .int .u64 r2]) ∧ Drawn0 w w' := by
 have H : (some (IntKind.u64.wrap ((IntKind.u64.wrap ((IntKind.u64.wrap ((a0 / 4294967296) * (a1 / 4294967296))) + ((IntKind.u64.wrap ((IntKind.u64.wrap ((a0 / 4294967296) * (Go.bits .and .u64 a1 4294967295))) + ((IntKind.u64.wrap ((Go.bits .and .u64 a0 4294967295) * (Go.bits .and .u64 a1 4294967295))) / 4294967296))) / 4294967296))) + ((IntKind.u64.wrap ((Go.bits .and .u64 (IntKind.u64.wrap ((IntKind.u64.wrap ((a0 / 4294967296) * (Go.bits .and .u64 a1 4294967295))) + ((IntKind.u64.wrap ((Go.bits .and .u64 a0 4294967295) * (Go.bits .and .u64 a1 4294967295))) / 4294967296))) 4294967295) + (IntKind.u64.wrap ((Go.bits .and .u64 a0 4294967295) * (a1 / 4294967296))))) / 4294967296)), IntKind.u64.wrap (a0 * a1))) = some (r1, r2) := h; clear h
 simp only [Option.some.injEq, Prod.mk.injEq] at H
 obtain ⟨rfl, rfl⟩ := H
 go_enter Try.func109, Try.ntmps109
 go_wp2
 go_ret2
 exact ⟨Z14, Z44⟩
def bits_Mul.f (a0 : Int) (a1 : Int) : Option (Int × Int) := (bits_Mul64.f a0 a1).bind fun bt203 => (some (bt203.1, bt203.2))
theorem bits_Mul.calls (a0 : Int) (a1 : Int) (r1 : Int) (r2 : Int) (w : World) (h : bits_Mul.f a0 a1 = some (r1, r2)) :
  Calls Try.prog 95 #[.int .u64 a0, .int .u64 a1] w fun e w' => e = .returned (.tuple #[.int .u64 r1, .int .u64 r2]) ∧ Drawn0 w w' := by
 have H : ((bits_Mul64.f a0 a1).bind fun Aa => (some (Aa.1, Aa.2))) = some (r1, r2) := h; clear h; replace H := Option.bind_eq_some_iff.mp H; obtain ⟨⟨Ab, Ac⟩, Ad, H⟩ := H; replace H : (some (Ab, Ac)) = some (r1, r2) := H; have A3 := Aside0.mk Ad; clear Ad
 simp only [Option.some.injEq, Prod.mk.injEq] at H
 obtain ⟨rfl, rfl⟩ := H
 go_enter Try.func95, Try.ntmps95
 go_wp2_with (first | ((with_reducible refine gate_callee (f := 109) rfl ?_); refine glE (some 25) Try.func109 #[.int .u64 a0, .int .u64 a1] ?_; (with_reducible refine (bits_Mul64.calls a0 a1 Ab Ac _ A3.out).mono ?_); rintro e w' ⟨rfl, ⟨nd, rfl⟩⟩; refine ⟨_, rfl, ?_⟩))
 go_ret2
 exact ⟨Z14, Z44⟩
theorem u64_id (n : Int) (h0 : 0 ≤ n) (h1 : n < 18446744073709551616) : IntKind.u64.wrap n = n := by
 have e : (2 : Int) ^ IntKind.u64.bits = 18446744073709551616 := by decide
 unfold IntKind.wrap
 rw [e]
 simp only [IntKind.signed, Bool.false_and, Bool.false_eq_true, if_false]
 exact Int.emod_eq_of_lt h0 h1
theorem mul_small : ∀ n : Fin 65, bits_Mul.f 1 (n.val : Int) = some (0, (n.val : Int)) := by decide +kernel
theorem rep_row {w4 : World} {base n : Nat} {v : Value} (h : Kd.R (Kd.int .i64) 3 w4 base (fun _ => True) v (List.replicate n (0 : Int))) (hnew : ∃ b, v.ownBlock = some b ∧ base ≤ b) :
  ∃ (g cap : Nat) (cur : List Value), v = .slice (some ⟨g, 0, none⟩) n cap ∧ base ≤ g ∧ w4.heap[g]? = some (.cells cur.toArray 3 (0, 0)) ∧ n ≤ cap ∧ cap ≤ maxLen ∧ cur.length = cap := by
 obtain ⟨inner, ⟨_, h2⟩, _⟩ := h.2; rw [List.length_replicate] at h2
 rcases h2 with ⟨rfl, h0⟩ | ⟨g, cap, cur, rfl, hg, hc, hn, hm, hsz, _⟩
 ·exact absurd hnew (by simp [Value.ownBlock])
 ·exact ⟨g, cap, cur.toList, rfl, hg, by rw [Array.toArray_toList]; exact hc, hn, hm, by rw [Array.length_toList, hsz]; exact Nat.mul_one _⟩
theorem rep_hpos {w : World} {ad : Addr} {x : Int} {m : Nat} (hx : w.cell? (ad.add 0) = some (.int .i64 x)) (j : Nat) (v : Value) (hj : (List.replicate (min 1 m) (Value.int .i64 x))[j]? = some v) : w.cell? (ad.add j) = some v := by
 rw [List.getElem?_replicate] at hj
 split at hj
 ·obtain rfl : j = 0 := by omega
  rw [← Option.some.inj hj]
  exact hx
 ·cases hj
theorem rep_cell {w w4 : World} {ad : Addr} {x : Int} (h : Kd.C (Kd.int .i64) w (some ad) [x].length [x]) (hb : Below w.heap.size w w4) : w4.cell? (ad.add 0) = some (.int .i64 x) := by
 obtain ⟨ad2, e2, Aa⟩ := Kd.at_int (Kd.C_below h hb) 0 (by omega) (by simp); cases e2
 exact Aa
theorem rep_fin {w4 : World} {base g cap n : Nat} {x : Int} {cr : List Value} (hg : w4.heap[g]? = some (.cells cr.toArray 3 (0, 0))) (hl : cr.length = cap) (hn : n ≤ cap) (hcm : cap ≤ maxLen) (hj : ∀ j, j < n → cr[j]? = some (.int .i64 x)) (hb : base ≤ g) :
  Kd.R (Kd.int .i64) 3 w4 base (fun _ => True) (.slice (some ⟨g, 0, none⟩) n cap) (List.replicate n x) := by
 have ht : cr.take n = List.replicate n (.int .i64 x) := by
  apply List.ext_getElem?
  intro j; rw [List.getElem?_take, List.getElem?_replicate]
  by_cases h : j < n
  ·rw [if_pos h, if_pos h, hj j h]
  ·rw [if_neg h, if_neg h]
 refine ⟨fun _ _ => trivial, List.replicate n (.int .i64 x), ⟨?_, .inr ⟨g, cap, cr.toArray, ?_, hb, hg, ?_, hcm, ?_, ?_⟩⟩, ?_, ?_⟩
 ·rw [List.length_replicate, List.length_replicate]; exact (Nat.mul_one _).symm
 ·rw [List.length_replicate]
 ·rw [List.length_replicate]; exact hn
 ·rw [List.size_toArray, hl]; exact (Nat.mul_one _).symm
 ·rw [List.length_replicate, show n * (Kd.int .i64).sz = n from Nat.mul_one _]; exact ht
 ·rw [List.length_replicate, List.length_replicate]; exact (Nat.mul_one _).symm
 ·intro m p hp
  rw [List.getElem?_replicate] at hp
  split at hp
  ·rw [← Option.some.inj hp, show (Kd.int .i64).sz = 1 from rfl, Nat.mul_one, List.drop_replicate, List.take_replicate, show min 1 (n - m) = 1 by omega]
   rfl
  ·cases hp
theorem rep_start {cur : List Value} {n cap : Nat} {x : Int} (hl : cur.length = cap) (hn : n ≤ cap) : (splice cur 0 (List.replicate (min 1 n) (Value.int .i64 x))).length = cap ∧ ∀ j, j < min 1 n → (splice cur 0 (List.replicate (min 1 n) (Value.int .i64 x)))[j]? = some (.int .i64 x) := by
 refine ⟨by rw [length_splice _ _ _ Z203]; exact hl, fun j hj => ?_⟩
 unfold splice
 rw [List.take_zero, List.nil_append, List.getElem?_append_left (by rw [List.length_replicate]; exact hj), List.getElem?_replicate, if_pos hj]
theorem rep_hpos2 {w : World} {g n m : Nat} {x : Int} {cr : List Value} (hg : w.heap[g]? = some (.cells cr.toArray 3 (0, 0))) (hj : ∀ j, j < m → cr[j]? = some (.int .i64 x)) (j : Nat) (v : Value) (h : (List.replicate (min m (n - m)) (Value.int .i64 x))[j]? = some v) : w.cell? ((⟨g, 0, none⟩ : Addr).add j) = some v := by
 rw [List.getElem?_replicate] at h
 split at h
 ·rw [← Option.some.inj h]
  have e : (⟨g, 0, none⟩ : Addr).add j = ⟨g, j, none⟩ := by unfold Addr.add; split <;> simp_all
  rw [e, blk_cell hg j]
  simpa using hj j (by omega)
 ·cases h
theorem rep_next {cr : List Value} {m n cap : Nat} {x : Int} (hl : cr.length = cap) (hn : n ≤ cap) (hm : m < n) (hj : ∀ j, j < m → cr[j]? = some (.int .i64 x)) : (splice cr m (List.replicate (min m (n - m)) (Value.int .i64 x))).length = cap ∧ ∀ j, j < m + min m (n - m) → (splice cr m (List.replicate (min m (n - m)) (Value.int .i64 x)))[j]? = some (.int .i64 x) := by
 refine ⟨by rw [length_splice _ _ _ Z203]; exact hl, fun j hj2 => ?_⟩
 unfold splice
 have hlt : (cr.take m).length = m := by rw [List.length_take]; omega
 by_cases h : j < m
 ·rw [List.getElem?_append_left (by omega), List.getElem?_take, if_pos h]
  exact hj j h
 ·rw [List.getElem?_append_right (by omega), hlt, List.getElem?_append_left Z203, List.getElem?_replicate, if_pos (by omega)]
def slices_Repeat_int_int.f (l0 : List Int) (a1 : Int) : Option (List Int) := if l0.length = 1 ∧ 0 ≤ a1 ∧ a1 ≤ 64 then some (List.replicate a1.toNat (l0.getD 0 0)) else none
set_option maxHeartbeats 4000000 in
set_option maxRecDepth 100000 in
theorem slices_Repeat_int_int.calls (A0 : Option Addr) (c0 : Nat) (l0 : List Int) (a1 : Int) (r : List Int) (w : World) (Ac : Kd.C (Kd.int .i64) w A0 l0.length l0) (Ag : l0.length ≤ c0) (h : slices_Repeat_int_int.f l0 a1 = some r) :
  Calls Try.prog 79 #[.slice A0 l0.length c0, .int .i64 a1] w fun e w' => ∃ v0_ : Value, e = .returned (v0_) ∧ Kd.R (Kd.int .i64) 3 w' w.heap.size (fun _ => True) v0_ r ∧ Below w.heap.size w w' := by
 unfold slices_Repeat_int_int.f at h
 by_cases hq : l0.length = 1 ∧ 0 ≤ a1 ∧ a1 ≤ 64
 case neg => rw [if_neg hq] at h; cases h
 rw [if_pos hq] at h; obtain ⟨hl, ha0, ha1⟩ := hq
 obtain ⟨x, rfl⟩ : ∃ x, l0 = [x] := by
  cases l0 with
  | nil => simp at hl
  | cons x t => cases t with
   | nil => exact ⟨x, rfl⟩
   | cons y t => simp at hl
 obtain ⟨n, rfl⟩ : ∃ n : Nat, a1 = (n : Int) := ⟨a1.toNat, by omega⟩; have Ae := Option.some.inj h; rw [Int.toNat_natCast] at Ae; subst Ae; clear h hl; obtain ⟨ad, e0, Ah⟩ := Kd.at_int Ac 0 (by omega) (by simp); cases e0; have hmul := bits_Mul.calls 1 (n : Int) 0 (n : Int) w (mul_small ⟨n, by omega⟩); have HM := Aside0.mk hmul; have HX := Aside0.mk Ah; have HN := aM (show n ≤ 64 by omega); have HR := Aside0.mk Ac; clear hmul Ac Ag ha1; have cu : IntKind.u64.wrap (n : Int) = (n : Int) := u64_id _ (by omega) Z199; have cz0 : decide ((n : Int) < 0) = false := decide_eq_false (by omega)
 go_enter Try.func79, Try.ntmps79
 go_wp2_with fail
 refine HM.out.mono ?_; rintro e w1 ⟨rfl, nd, rfl⟩; have c1 : decide ((n : Int) > 9223372036854775807) = false := decide_eq_false Z199; have c2 : wrap64 (n : Int) = (n : Int) := wrap_id _ (by omega) Z199; have C2 := Aside0.mk c2
 go_wp2_with (first | ((with_reducible refine gate_dst (N := 30) rfl ?_); refine Kd.R_make (Kd.int .i64) _ 3 rfl (N := 30) rfl 22 _ _ rfl (wrap64 (n : Int)) rfl rfl Try.underlying22 (.int .i64 0) 8 info3 rfl (by decide) (by omega) 0 (ok := fun _ => True) (okp := fun _ => True) rfl (fun _ hk => hk) trivial (by rw [C2.out]; omega) (by rw [C2.out]; have := HN.out; omega) (Below.refl _ _) (Nat.le_refl _) ?_; intro Ai w4 Ad hb hg_ hnew_; rw [C2.out, Int.toNat_natCast] at Ad; obtain ⟨g, cap, cur, rfl, hge, hcell, hnc, hcm, hsz⟩ := rep_row Ad hnew_; have HB := aM (show Below w.heap.size w w4 from below_step Z193 hb); have HG := Aside0.mk hcell; have HXC := aM (rep_cell HR.out HB.out); have HGE := aM (show w.heap.size ≤ g from Nat.le_trans (below_size (Z193 : Below w.heap.size w (w.drewN nd))) hge); have HNC := Aside0.mk hnc; have HCM := Aside0.mk hcm; have HSZ := Aside0.mk hsz; clear Ad hb hg_ hnew_ hge hcell hnc hcm hsz))
 have hrun := run_copy_row (P := Try.prog) w4 22 22 3 3 g 0 n cap ad 1 c0 cur.toArray 3 (List.replicate (min 1 n) (.int .i64 x)) Try.underlying22 Z61 HG.out (by rw [List.length_replicate]) (rep_hpos HXC.out) (by rw [List.length_replicate]; have := HSZ.out; have := HNC.out; simp only [List.size_toArray]; omega) (fun v hv => by rw [(List.mem_replicate.1 hv).2]; rfl); rw [hrun]; have hg5 := setRow_heap w4 g _ ((cur.toArray.toList.take 0 ++ List.replicate (min 1 n) (Value.int .i64 x) ++ cur.toArray.toList.drop (0 + (List.replicate (min 1 n) (Value.int .i64 x)).length)).toArray) 3 _ HG.out; have hb5 := below_setRow HB.out HGE.out ((cur.toArray.toList.take 0 ++ List.replicate (min 1 n) (Value.int .i64 x) ++ cur.toArray.toList.drop (0 + (List.replicate (min 1 n) (Value.int .i64 x)).length)).toArray); clear hrun
 generalize w4.setRow g ((cur.toArray.toList.take 0 ++ List.replicate (min 1 n) (Value.int .i64 x) ++ cur.toArray.toList.drop (0 + (List.replicate (min 1 n) (Value.int .i64 x)).length)).toArray) = w5 at hg5 hb5 ⊢
 have e5 : ((cur.toArray.toList.take 0 ++ List.replicate (min 1 n) (Value.int .i64 x) ++ cur.toArray.toList.drop (0 + (List.replicate (min 1 n) (Value.int .i64 x)).length)).toArray) = (splice cur 0 (List.replicate (min 1 n) (Value.int .i64 x))).toArray := by simp [splice]
 rw [e5] at hg5; rw [List.length_replicate]; have HG5 := Aside0.mk hg5; have Aj := Aside0.mk hb5; clear hg5 hb5 e5
 go_wp2_with fail
 go_loopg [8] n (fun gg s8 wr => ∃ (m : Nat) (cr : List Value), s8 = .int .i64 (m : Int) ∧ Aside0 (m ≤ n ∧ (m = 0 → n = 0) ∧ n - m ≤ gg) ∧ Aside0 (wr.heap[g]? = some (.cells cr.toArray 3 (0, 0))) ∧ Aside0 (cr.length = cap ∧ ∀ j, j < m → cr[j]? = some (.int .i64 x)) ∧ Aside0 (Below w.heap.size w wr))
 case atStart => exact ⟨min 1 n, _, rfl, ⟨by omega, by omega, by omega⟩, HG5, ⟨rep_start HSZ.out HNC.out⟩, Aj⟩
 case round =>
  obtain ⟨m, cr, rfl, Ab, HG6, Aa, Af⟩ := hrel
  by_cases hlt : m < n
  ·have d0 : decide ((m : Int) < (n : Int)) = true := decide_eq_true (by omega)
   have HLT := Aside0.mk hlt; have d1 : decide (0 ≤ (m : Int)) = true := decide_eq_true (by omega); have d2 : decide ((m : Int) ≤ (n : Int)) = true := decide_eq_true (by omega); have d3 : decide ((m : Int) ≤ (cap : Int)) = true := decide_eq_true (by have := HNC.out; omega)
   have d4 : wrap64 ((m : Int) + ((min m (n - m) : Nat) : Int)) = ((m + min m (n - m) : Nat) : Int) := by rw [wrap_id _ (by omega) Z199]; omega
   have d5 : (m ≤ n) = True := eq_true (by omega); have d8 : (m < n) = True := eq_true hlt; have d6 : (cap = m) = False := eq_false (by have := HNC.out; omega); have d7 : (m ≤ cap) = True := eq_true (by have := HNC.out; omega); clear hlt
   go_wp2_with fail
   refine start_ (ds := []) (n := 10) (S := fun _ => True) #[false, false, false, false, false, false, false, false, false, false] rfl rfl rfl trivial (fun hHeld => ?_); have HG8 := aM (show wr.drew.heap[g]? = some (.cells cr.toArray 3 (0, 0)) from HG6.out); have Ak := aM (show Below w.heap.size w wr.drew from below_drew1 Af.out); refine take_ (i := 0) (N := some 38) (v := ?_) (a' := ?_) #[true, false, false, false, false, false, false, false, false, false] rfl rfl Z61 (fun _ _ _ h => h) (Or.inl ⟨by rfl, ?_⟩) hHeld ?_ ?_
   rotate_left
   ·rintro w' -
    go_simp
    with_reducible rfl
   rotate_left
   ·simp only [Act.put, List.setIfInBounds_toArray, List.set_cons_zero, List.set_cons_succ]
    rfl
   refine take_ (i := 1) (N := some 39) (v := ?_) (a' := ?_) #[true, true, false, false, false, false, false, false, false, false] rfl rfl Z61 (fun _ _ _ h => h) (Or.inl ⟨by rfl, ?_⟩) hHeld ?_ ?_
   rotate_left
   ·rintro w' -
    go_simp
    with_reducible rfl
   rotate_left
   ·simp only [Act.put, List.setIfInBounds_toArray, List.set_cons_zero, List.set_cons_succ]
    rfl
   refine take_ (i := 2) (N := some 40) (v := ?_) (a' := ?_) #[true, true, true, false, false, false, false, false, false, false] rfl rfl Z61 (fun _ _ _ h => h) (Or.inl ⟨by rfl, ?_⟩) hHeld ?_ ?_
   rotate_left
   ·rintro w' -
    go_simp
    with_reducible rfl
   rotate_left
   ·simp only [Act.put, List.setIfInBounds_toArray, List.set_cons_zero, List.set_cons_succ]
    rfl
   refine take_ (i := 3) (N := some 41) (v := ?_) (a' := ?_) #[true, true, true, true, false, false, false, false, false, false] rfl rfl Z61 (fun _ _ _ h => h) (Or.inl ⟨by rfl, ?_⟩) hHeld ?_ ?_
   rotate_left
   ·rintro w' -
    go_simp
    with_reducible rfl
   rotate_left
   ·simp only [Act.put, List.setIfInBounds_toArray, List.set_cons_zero, List.set_cons_succ]
    rfl
   refine take_ (i := 4) (N := some 42) (v := ?_) (a' := ?_) #[true, true, true, true, true, false, false, false, false, false] rfl rfl Z61 (fun _ _ _ h => h) (Or.inl ⟨by rfl, ?_⟩) hHeld ?_ ?_
   rotate_left
   ·rintro w' -
    go_simp
    with_reducible rfl
   rotate_left
   ·simp only [Act.put, List.setIfInBounds_toArray, List.set_cons_zero, List.set_cons_succ]
    rfl
   refine take_ (i := 5) (N := some 43) (v := ?_) (a' := ?_) #[true, true, true, true, true, true, false, false, false, false] rfl rfl Z61 (fun _ _ _ h => h) (Or.inl ⟨by rfl, ?_⟩) hHeld ?_ ?_
   rotate_left
   ·rintro w' -
    go_simp
    with_reducible rfl
   rotate_left
   ·simp only [Act.put, List.setIfInBounds_toArray, List.set_cons_zero, List.set_cons_succ]
    rfl
   refine take_ (i := 6) (N := some 44) (v := ?_) (a' := ?_) #[true, true, true, true, true, true, true, false, false, false] rfl rfl Z61 (fun _ _ _ h => h) (Or.inl ⟨by rfl, ?_⟩) hHeld ?_ ?_
   rotate_left
   ·rintro w' -
    go_simp
    with_reducible rfl
   rotate_left
   ·simp only [Act.put, List.setIfInBounds_toArray, List.set_cons_zero, List.set_cons_succ]
    rfl
   refine one_ (i := 7) (N := some 45) #[true, true, true, true, true, true, true, true, false, false] rfl rfl Z61 (by decide) (fun K hK => ?_); refine step_copy_splice rfl (.tmp 41) (.tmp 44) 22 22 rfl 3 Try.underlying22 Z61 (some ⟨g, m, none⟩) (some ⟨g, 0, none⟩) (n - m) (cap - m) m cap rfl rfl g m cr 3 HG8.out (List.replicate (min m (n - m)) (.int .i64 x)) (by rw [List.length_replicate]) (fun _ => ⟨rfl, _, rfl, rep_hpos2 HG8.out Aa.out.2⟩) (by rw [List.length_replicate]; have := Aa.out.1; have := HNC.out; have := HLT.out; omega) (fun v hv => by rw [(List.mem_replicate.1 hv).2]; rfl) w.heap.size w Ak.out HGE.out ?_; intro w7 hg7 hb7; refine hK.out (Act.put _ (some 45) _) _ trivial (fun _ => ?_)
   simp only [Act.put, List.setIfInBounds_toArray, List.set_cons_zero, List.set_cons_succ, List.length_replicate]
   refine take_ (i := 8) (N := some 46) (v := ?_) (a' := ?_) #[true, true, true, true, true, true, true, true, true, false] rfl rfl Z61 (fun _ _ _ h => h) (Or.inl ⟨by rfl, ?_⟩) hHeld ?_ ?_
   rotate_left
   ·rintro w' -
    go_simp
    with_reducible rfl
   rotate_left
   ·simp only [Act.put, List.setIfInBounds_toArray, List.set_cons_zero, List.set_cons_succ]
    rfl
   refine take_ (i := 9) (N := some 8) (v := ?_) (a' := ?_) #[true, true, true, true, true, true, true, true, true, true] rfl rfl Z61 (fun _ _ _ h => h) (Or.inl ⟨by rfl, ?_⟩) hHeld ?_ ?_
   rotate_left
   ·rintro w' -
    go_simp
    with_reducible rfl
   rotate_left
   ·simp only [Act.put, List.setIfInBounds_toArray, List.set_cons_zero, List.set_cons_succ]
    rfl
   refine done_ Z61 ?_; have HG9 := Aside0.mk hg7; have Al := Aside0.mk hb7; clear hg7 hb7
   go_wp2
   go_roundg (n - (m + min m (n - m)))
   case measure => have := Ab.out; have := HLT.out; omega
   case rel => exact ⟨m + min m (n - m), _, by simp only [i64_w, d4], ⟨by have := Ab.out; have := HLT.out; omega, by have := Ab.out; have := HLT.out; omega, by omega⟩, HG9, ⟨rep_next Aa.out.1 HNC.out HLT.out Aa.out.2⟩, Al⟩
  ·have d0 : decide ((m : Int) < (n : Int)) = false := decide_eq_false (by omega)
   go_wp2
   go_ret
   obtain rfl : m = n := by have := Ab.out; omega
   exact ⟨_, rfl, rep_fin HG6.out Aa.out.1 HNC.out HCM.out Aa.out.2 HGE.out, Af.out⟩
end Go.Proofs.Ytaadbpibmlnncaa.H
