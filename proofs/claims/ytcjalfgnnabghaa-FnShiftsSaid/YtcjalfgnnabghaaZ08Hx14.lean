-- by wip/pack.py of this repo
import Derived.Test.YtcjalfgnnabghaaZ08Hx0
import Derived.Test.YtcjalfgnnabghaaZ08WApart
import Derived.Test.YtcjalfgnnabghaaZ08WLast
import Derived.Test.YtcjalfgnnabghaaZ08WMore
import Derived.Test.YtcjalfgnnabghaaZ08WN
import Derived.Test.YtcjalfgnnabghaaZ08WTab
import Derived.Test.YtcjalfgnnabghaaZ08WWords
import Derived.Test.YtcjalfgnnabghaaZ08Short
namespace Go.Proofs.Ytcjalfgnnabghaa.H
open Go.RowKit Go.Proofs.YtcjalfgnnabghaaW.PrintWords Go.Proofs.YtcjalfgnnabghaaW.PrintLast Go.Proofs.YtcjalfgnnabghaaW.PrintMore
attribute [local go_sem] max2_int min2_int max_two min_two max_three min_three max_four min_four
set_option maxHeartbeats 8000000
set_option maxRecDepth 100000
set_option linter.unusedVariables false
set_option linter.unusedSimpArgs false
mutual
def impl_makeChart.l0 (of : Int → Int → Option Int) : Nat → Int → Int → Int → Int → Int → List Int → Option (Int × Int × List Int)
 | 0, _, _, _, _, _, _ => none
 | k + 1, x0, x13, x14, x271000, x271001, x271002 => if x14 < x13 then (impl_makeChart.l1 of k x0 x14 x13 x14 x0 0 x271000 x271001 x271002) else (some (x271000, x271001, x271002))
def impl_makeChart.l1 (of : Int → Int → Option Int) : Nat → Int → Int → Int → Int → Int → Int → Int → Int → List Int → Option (Int × Int × List Int)
 | 0, _, _, _, _, _, _, _, _, _ => none
 | k + 1, x0, x8, x13, x14, x17, x18, x271000, x271001, x271002 => if x18 < x17 then ((of x8 x18).bind fun t271 => (if x271002.length < 17592186044416 then (impl_makeChart.l1 of k x0 x8 x13 x14 x17 (wrap64 (x18 + 1)) x271000 x271001 (x271002 ++ [t271])) else (none))) else (impl_makeChart.l0 of k x0 x13 (wrap64 (x14 + 1)) x271000 x271001 x271002)
end
def impl_makeChart.f (of : Int → Int → Option Int) (k : Nat) (a0 : Int) (a1 : Int) : Option (Int × Int × List Int) := impl_makeChart.l0 of k a0 a1 0 a0 a1 ([] : List Int)
def impl_makeChart.T8 : Bool × List (List Nat × List Nat) := (true, [([], []), ([0], [0]), ([], []), ([], []), ([], []), ([2, 3, 4], [2, 3, 4]), ([5], [5]), ([1, 6, 5], [1, 6]), ([0, 1, 2, 3, 4, 5, 6, 7], []), ([8, 7, 7, 0, 1, 2, 3, 4, 5, 6, 7], [7, 8])])
def impl_makeChart.B8 : List Nat := [0, 1, 0, 0, 0, 28, 60, 127, 255, 511]
theorem impl_makeChart.tab8 : rtab .any (opsOf Try.f60 8) = impl_makeChart.T8 := by kernel_rfl
theorem impl_makeChart.bits8 : waitsOk impl_makeChart.T8.2 impl_makeChart.B8 = true := by kernel_rfl
theorem impl_makeChart.calls (of : Int → Int → Option Int) (g : Nat) (lb : Array Value) (k : Nat) (a0 : Int) (a1 : Int) (r1 : Int) (r2 : Int) (r3 : List Int) (w : World) (eg : ∀ args w, (callFunc g args).run Try.prog w = .ok (.enter g args) w) (hp : ∀ (W : World) (x y r : Int), Below w.heap.size w W → of x y = some r → Calls Try.prog g (#[.int .i64 x, .int .i64 y] ++ lb) W fun e w' => e = .returned (.int .i64 r) ∧ Below W.heap.size W w') (h : impl_makeChart.f of k a0 a1 = some (r1, r2, r3)) :
  Calls Try.prog 60 #[.int .i64 a0, .int .i64 a1, .func (.func g) #[] lb] w fun e w' => ∃ v2_ : Value, e = .returned (.agg #[.int .i64 r1, .int .i64 r2, v2_]) ∧ Kd.R (Kd.int .i64) 3 w' w.heap.size (fun _ => True) v2_ r3 ∧ Below w.heap.size w w' := by
 have hu28 := Try.underlying28; have HP := Aside0.mk hp; have EG := Aside0.mk eg; clear hp eg; have HB := aM (Below.refl w.heap.size w); have H : (impl_makeChart.l0 of k a0 a1 0 a0 a1 ([] : List Int)) = some (r1, r2, r3) := h; clear h; have H' := Aside0.mk H; clear H
 go_enter Try.func60, Try.ntmps60
 go_wp2_with (first | ((with_reducible refine gate_dst (N := 6) rfl ?_); refine bxE 6 #[.int .i64 0, .int .i64 0, .slice none 0 0] 28 ?_; intro Am hg w4 hbox hb; have Ad := aM (hbox); have Bw := gwS hg Z0; have Ah := gwS hg Z0; replace HB := hbS Z0 hb; clear hb hbox hg) | ((with_reducible refine gate_dst (N := 7) rfl ?_); refine bxE 7 #[.int .i64 0, .int .i64 0, .slice none 0 0] 28 ?_; intro Al hg w5 hbox hb; have Ab := aM (hbox); have Bx := gwS hg Z57; have Aj := gwS hg Z57; replace HB := hbS Z57 hb; have Ae := nbL hg Ad; have Ak := nbG hg Ad; replace Ad := bkB Ad hb; clear hb hbox hg; have B6 := Ak.out; have B9 := Ae.out; obtain ⟨Ap, Aq, Ar⟩ := bz3 Ab; obtain ⟨Au, Av, Aw⟩ := fz3 Ab))
 go_loopg [14] k (fun kq Ca w' => ∃ (Ag : Int) (Af : List Int) (u271002 : Value), Ca = .int .i64 Ag ∧ Aside0 (impl_makeChart.l0 of kq a0 a1 Ag a0 a1 Af = some (r1, r2, r3)) ∧ Aside0 (kq ≤ k) ∧ Aside0 (Kd.R (Kd.int .i64) 3 w' w.heap.size (fun _ => True) u271002 Af) ∧ Aside0 (w'.heap[Am]? = some (.cells #[.int .i64 0, .int .i64 0, (.slice none 0 0)] 28 (0, 0))) ∧ Aside0 (w'.heap[Al]? = some (.cells #[.int .i64 a0, .int .i64 a1, u271002] 28 (0, 0))) ∧ Aside0 (Below w.heap.size w w'))
 case atStart => exact ⟨(0), (([] : List Int)), (.slice none 0 0), Z10, H', ⟨Nat.le_refl _⟩, ⟨Z192⟩, ⟨by (with_reducible repeat (first | refine blk_drewN ?_ _ | refine blk_drew ?_ | refine blk_alloc ?_ _)); refine blk_far ?_ Ae.out _; (with_reducible repeat (first | refine blk_drewN ?_ _ | refine blk_drew ?_ | refine blk_alloc ?_ _)); refine blk_far ?_ Ae.out _; (with_reducible repeat (first | refine blk_drewN ?_ _ | refine blk_drew ?_ | refine blk_alloc ?_ _)); refine blk_far ?_ Ae.out _; (with_reducible repeat (first | refine blk_drewN ?_ _ | refine blk_drew ?_ | refine blk_alloc ?_ _)); exact Ad.out⟩, ⟨by (with_reducible repeat (first | refine blk_drewN ?_ _ | refine blk_drew ?_ | refine blk_alloc ?_ _)); refine blk_put (cs := #[.int .i64 a0, .int .i64 a1, .slice none 0 0]) ?_ 2 _ rfl; (with_reducible repeat (first | refine blk_drewN ?_ _ | refine blk_drew ?_ | refine blk_alloc ?_ _)); refine blk_put (cs := #[.int .i64 a0, .int .i64 0, .slice none 0 0]) ?_ 1 _ rfl; (with_reducible repeat (first | refine blk_drewN ?_ _ | refine blk_drew ?_ | refine blk_alloc ?_ _)); refine blk_put (cs := #[.int .i64 0, .int .i64 0, .slice none 0 0]) ?_ 0 _ rfl; (with_reducible repeat (first | refine blk_drewN ?_ _ | refine blk_drew ?_ | refine blk_alloc ?_ _)); exact Ab.out⟩, ⟨Z6⟩⟩
 case round =>
  clear H'; (try clear p2); (try clear c6); (try clear Ap); (try clear Aq); (try clear Ar); (try clear Au); (try clear Av); (try clear Aw); obtain ⟨Ag, Af, u271002, rfl, HA, HK1, Aa, Ad, Ab, HB⟩ := hrel; cases gk with
  | zero => exact absurd HA.out (by simp [impl_makeChart.l0])
  | succ k1 =>
   have H := HA.out; clear HA
   simp only [impl_makeChart.l0] at H
   by_cases c8 : Ag < a1
   ·rw [if_pos c8] at H
    have c8b0 : decide (Ag < a1) = true := decide_eq_true c8; clear c8; have H' := Aside0.mk H; clear H
    go_wp2
    go_loopg [18] k1 (fun kq Cb w' => ∃ (Ai : Int) (Ac : List Int) (u271002 : Value), Cb = .int .i64 Ai ∧ Aside0 (impl_makeChart.l1 of kq a0 Ag a1 Ag a0 Ai a0 a1 Ac = some (r1, r2, r3)) ∧ Aside0 (kq ≤ k1) ∧ Aside0 (Kd.R (Kd.int .i64) 3 w' w.heap.size (fun _ => True) u271002 Ac) ∧ Aside0 (w'.heap[Am]? = some (.cells #[.int .i64 0, .int .i64 0, (.slice none 0 0)] 28 (0, 0))) ∧ Aside0 (w'.heap[Al]? = some (.cells #[.int .i64 a0, .int .i64 a1, u271002] 28 (0, 0))) ∧ Aside0 (Below w.heap.size w w'))
    case atStart => exact ⟨(0), (Af), (u271002), Z10, H', ⟨Nat.le_refl _⟩, ⟨Z40⟩, ⟨Z26⟩, ⟨Z4⟩, ⟨Z6⟩⟩
    case round =>
     clear H'; (try clear p2); (try clear c6); (try clear c8); (try clear c8b0); (try clear Ap); (try clear Aq); (try clear Ar); (try clear Au); (try clear Av); (try clear Aw); (try clear p2); obtain ⟨Ai, Ac, u271002, rfl, HA, HK2, Aa, Ad, Ab, HB⟩ := hrel; cases gk with
     | zero => exact absurd HA.out (by simp [impl_makeChart.l1])
     | succ k2 =>
      have H := HA.out; clear HA
      simp only [impl_makeChart.l1] at H
      by_cases c9 : Ai < a0
      ·rw [if_pos c9] at H
       have c9b0 : decide (Ai < a0) = true := decide_eq_true c9; clear c9; replace H := Option.bind_eq_some_iff.mp H; obtain ⟨Ax, Ba, H⟩ := H; replace H : (if Ac.length < 17592186044416 then (impl_makeChart.l1 of k2 a0 Ag a1 Ag a0 (wrap64 (Ai + 1)) a0 a1 (Ac ++ [Ax])) else (none)) = some (r1, r2, r3) := H; have Cc := Aside0.mk Ba; clear Ba
       by_cases Bi : Ac.length < 17592186044416
       ·rw [if_pos Bi] at H
        have LMc11 := Aside0.mk Bi; clear Bi; obtain ⟨Ay, An⟩ : ∃ y_ : List Int, y_ = (Ac ++ [Ax]) := ⟨_, rfl⟩
        replace H : (impl_makeChart.l1 of k2 a0 Ag a1 Ag a0 (wrap64 (Ai + 1)) a0 a1 Ay) = some (r1, r2, r3) := by first | (rw [An]; with_reducible exact H) | (have H2_ := (Option.bind_some _ _).symm.trans H; rw [An]; with_reducible exact H2_) | (have H2_ := (Option.bind_some _ _).symm.trans H; with_reducible exact H2_) | with_reducible exact H | (rw [An]; exact H) | exact H
        have Bb := Aside0.mk An; clear An; have H' := Aside0.mk H; clear H
        try go_wp2
        replace Aa := aM (Kd.R_drew Aa.out); replace Ad := aM (blk_drew Ad.out); replace Ab := aM (blk_drew Ab.out); replace HB := aM (below_drew1 HB.out); refine start_ (n := 10) (S := fun w' => w'.cell? ⟨Al, 0, none⟩ = some (.int .i64 a0) ∧ w'.cell? ⟨Al, 1, none⟩ = some (.int .i64 a1) ∧ w'.cell? ⟨Al, 2, none⟩ = some (u271002)) (ds := [9]) #[false, false, false, false, false, false, false, false, false, false] Z61 rfl rfl ⟨(blk_cell Ab.out 0).trans rfl, (blk_cell Ab.out 1).trans rfl, (blk_cell Ab.out 2).trans rfl⟩ (fun hHeld => ?_); refine with_tabW impl_makeChart.tab8 impl_makeChart.bits8 (fun HT_ HW_ => ?_)
        generalize wr.drew = Cf at Aa Ad Ab HB hHeld ⊢
        refine puR 0 21 #[true, false, false, false, false, false, false, false, false, false] HT_ rfl rfl ?_; refine puR 2 23 #[true, false, true, false, false, false, false, false, false, false] HT_ rfl rfl ?_; refine puR 3 24 #[true, false, true, true, false, false, false, false, false, false] HT_ rfl rfl ?_; refine puR 4 25 #[true, false, true, true, true, false, false, false, false, false] HT_ rfl rfl ?_; refine taR 1 22 #[true, true, true, true, true, false, false, false, false, false] HT_ HW_ hHeld rfl rfl ?_; refine one_ (i := 5) (N := some 26) #[true, true, true, true, true, true, false, false, false, false] rfl rfl (one_of HT_.out Z61) (by decide) (fun K hK => ?_); refine call_ g (#[.int .i64 Ag, .int .i64 Ai] ++ lb) (by rfl) rfl (by unfold execOp; simp [resolve, Deferred.ofValue, invoke, Act.eval, EG.out]) ?_; refine (HP.out _ Ag Ai Ax Z6 Cc.out).mono ?_; rintro e Cg ⟨rfl, hb⟩; refine ⟨_, rfl, ?_⟩; replace Aa := roB Aa hb; replace Ad := bkB Ad hb; replace Ab := bkB Ab hb; replace HB := hbS Z6 hb; (try clear hb); (try clear hb2); (try clear hk); (try clear hi); refine hK.out _ _ Z74 (fun hHeld => ?_); clear hK K; refine noR 26 ?_; refine one_ (i := 6) (N := some 27) #[true, true, true, true, true, true, true, false, false, false] rfl rfl (one_of HT_.out Z61) (by decide) (fun K hK => ?_); refine value_ (w1 := ?_) (v := ?_) (by rfl) rfl ?_ ?_
        rotate_left 2
        ·go_simp
         constructor
         ·rfl
         ·rfl
        refine hK.out _ _ (by exact ⟨(blk_cell (blk_alloc Ab.out _) 0).trans rfl, (blk_cell (blk_alloc Ab.out _) 1).trans rfl, (blk_cell (blk_alloc Ab.out _) 2).trans rfl⟩) (fun hHeld => ?_); clear hK K; refine noR 27 ?_; refine one_ (i := 7) (N := some 28) #[true, true, true, true, true, true, true, true, false, false] rfl rfl (one_of HT_.out Z61) (by decide) (fun K hK => ?_); refine Kd.R_append_step (Kd.int .i64) (w0 := w) w.heap.size (by rfl) (.tmp 22) (.tmp 27) 22 3 (.int .i64 0) 8 rfl Try.underlying22 info3 rfl (by decide) (by omega) u271002 Ac Ax [.int .i64 Ax] (fun _ => True) (fun _ => False) rfl rfl ?aP (fun _ hk => hk.elim) ?aF ?aO ?aB ?aS ?aL ?_; (case aP => exact rfl); (case aB => exact Z6); (case aF => exact (fun _ _ => trivial)); (case aO => exact Z40); (case aS => exact (below_size Z6)); (case aL => have := LMc11.out; omega); intro Cd Ce ho hb hg hat; rw [← Bb.out] at ho; replace Ad := aM (blk_grown (g := Am) (o := .cells #[.int .i64 0, .int .i64 0, .slice none 0 0] 28 (0, 0)) Z26 hg (Kd.R_ne Aa.out Ad.out (by decide))); replace Ab := aM (blk_grown (g := Al) (o := .cells #[.int .i64 a0, .int .i64 a1, u271002] 28 (0, 0)) Z4 hg (Kd.R_ne Aa.out Ab.out (by decide))); replace HB := aM (hb); have Az := aM (ho); clear Aa; clear ho hb hg hat; obtain ⟨Bc, Bd, Bf⟩ := Kd.R_slice Az.out
        (first | subst Bf | (injection Bf with f1_ f2_ f3_; have f4_ := f1_.symm; have f5_ := f3_.symm; clear f1_ f2_ f3_; subst f4_; subst f5_))
        refine hK.out _ _ Z74 (fun hHeld => ?_); clear hK K; refine noR 28 ?_; refine puR 8 29 #[true, true, true, true, true, true, true, true, true, false] HT_ rfl rfl ?_; refine last_ (i := 9) (N := none) #[true, true, true, true, true, true, true, true, true, true] rfl rfl (one_of HT_.out Z61) (by decide) (fun K hK => ?_); have hs16 : Ce.cell? ⟨Al, 2, none⟩ = some (u271002) := (blk_cell Ab.out 2).trans rfl; have hfs16 := blk_frozen Ab.out 2; have hns16_0 := Ae.out; have hms16_0 := Ak.out; refine skip_ (w1 := ?_) (by rfl) rfl ?_ ?_
        rotate_left
        ·go_simp
         rfl
        refine hK.out _ _ ?_; clear hK K; refine done_ (done_of HT_.out Z61) ?_
        try go_wp2
        go_roundg k2
        case measure => have := HK1.out; have := HK2.out; omega
        case rel => exact ⟨(wrap64 (Ai + 1)), (Ay), (.slice Bc Ay.length Bd), Z10, H', ⟨Z171⟩, ⟨by (with_reducible repeat (first | apply Kd.R_alloc | apply Kd.R_drewN | apply Kd.R_drew)); exact Kd.R_mono (Kd.R_far (p := ⟨Al, 2, none⟩) (Kd.R_types Az.out Ab.out (by decide)) (fun _ hk => hk.2) (.slice Bc Ay.length Bd)) (fun _ hk => trivial)⟩, ⟨by (with_reducible repeat (first | refine blk_drewN ?_ _ | refine blk_drew ?_ | refine blk_alloc ?_ _)); refine blk_far ?_ Ae.out _; (with_reducible repeat (first | refine blk_drewN ?_ _ | refine blk_drew ?_ | refine blk_alloc ?_ _)); exact Ad.out⟩, ⟨by (with_reducible repeat (first | refine blk_drewN ?_ _ | refine blk_drew ?_ | refine blk_alloc ?_ _)); refine blk_put (cs := #[.int .i64 a0, .int .i64 a1, u271002]) ?_ 2 _ rfl; (with_reducible repeat (first | refine blk_drewN ?_ _ | refine blk_drew ?_ | refine blk_alloc ?_ _)); exact Ab.out⟩, ⟨Z6⟩⟩
       ·rw [if_neg Bi] at H
        exact absurd H (by simp)
      ·rw [if_neg c9] at H
       have c9b0 : decide (Ai < a0) = false := decide_eq_false c9; clear c9; have H' := Aside0.mk H; clear H
       go_wp2
       go_roundg k2
       case measure => have := HK1.out; have := HK2.out; omega
       case rel => exact ⟨(wrap64 (Ag + 1)), (Ac), (u271002), Z10, H', ⟨Z171⟩, ⟨Z40⟩, ⟨Z26⟩, ⟨Z4⟩, ⟨Z6⟩⟩
   ·rw [if_neg c8] at H
    have c8b0 : decide (Ag < a1) = false := decide_eq_false c8; clear c8
    simp only [Option.some.injEq, Prod.mk.injEq] at H
    obtain ⟨rfl, rfl, rfl⟩ := H; have Bz := Ak.out; have B0 := Ae.out; obtain ⟨Bj, Bk, Bl⟩ := bz3 Ab; obtain ⟨Bm, Bn, Bo⟩ := fz3 Ab; obtain ⟨Bp, Bq, Br⟩ := bz3 Ad; obtain ⟨Bs, Bt, Bu⟩ := fz3 Ad; obtain ⟨Bg, Bh, Bv⟩ := Kd.R_slice Aa.out; subst Bv
    go_wp2
    refine bodyPost_ret (results_cell_row rfl _ _ Am 28 #[.int .i64 a0, .int .i64 a1, .slice Bg Af.length Bh] (0, 0) _ rfl (by (with_reducible repeat (first | refine blk_drewN ?_ _ | refine blk_drew ?_ | refine blk_alloc ?_ _)); refine blk_put (cs := #[.int .i64 a0, .int .i64 a1, .slice none 0 0]) ?_ 2 _ rfl; (with_reducible repeat (first | refine blk_drewN ?_ _ | refine blk_drew ?_ | refine blk_alloc ?_ _)); refine blk_put (cs := #[.int .i64 a0, .int .i64 0, .slice none 0 0]) ?_ 1 _ rfl; (with_reducible repeat (first | refine blk_drewN ?_ _ | refine blk_drew ?_ | refine blk_alloc ?_ _)); refine blk_put (cs := #[.int .i64 0, .int .i64 0, .slice none 0 0]) ?_ 0 _ rfl; (with_reducible repeat (first | refine blk_drewN ?_ _ | refine blk_drew ?_ | refine blk_alloc ?_ _)); exact Ad.out) Try.underlying28 rfl Z61) rfl ?_
    exact ⟨_, Z9, by (with_reducible repeat (first | apply Kd.R_alloc | apply Kd.R_drewN | apply Kd.R_drew)); exact Kd.R_mono (Kd.R_far (p := ⟨Am, 2, none⟩) (Kd.R_far (p := ⟨Am, 1, none⟩) (Kd.R_far (p := ⟨Am, 0, none⟩) (Kd.R_types Aa.out Ad.out (by decide)) (fun _ hk => hk.2) (.int .i64 a0)) (fun _ hk => hk.2) (.int .i64 a1)) (fun _ hk => hk.2) (.slice Bg Af.length Bh)) (fun _ hk => trivial), Z6⟩
end Go.Proofs.Ytcjalfgnnabghaa.H
