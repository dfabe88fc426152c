-- by wip/pack.py of this repo
import Derived.Test.YtcjalfgnnabghaaZ01Hx0
import Derived.Test.YtcjalfgnnabghaaZ01WApart
import Derived.Test.YtcjalfgnnabghaaZ01WLast
import Derived.Test.YtcjalfgnnabghaaZ01WMore
import Derived.Test.YtcjalfgnnabghaaZ01WN
import Derived.Test.YtcjalfgnnabghaaZ01WTab
import Derived.Test.YtcjalfgnnabghaaZ01WWords
import Derived.Test.YtcjalfgnnabghaaZ01Short
namespace Go.Proofs.Ytcjalfgnnabghaa.H
open Go.RowKit Go.Proofs.YtcjalfgnnabghaaW.PrintWords Go.Proofs.YtcjalfgnnabghaaW.PrintLast Go.Proofs.YtcjalfgnnabghaaW.PrintMore
attribute [local go_sem] max2_int min2_int max_two min_two max_three min_three max_four min_four
set_option maxHeartbeats 8000000
set_option maxRecDepth 100000
set_option linter.unusedVariables false
set_option linter.unusedSimpArgs false
mutual
def impl_makeChart.l0 (of : Int → Int → Option Int) : Nat → Int → Int → Int → Int → Int → List Int → Option (Int × Int × List Int)
 | 0, _, _, _, _, _, _ => none
 | k + 1, x0, x13, x14, x271000, x271001, x271002 => if x14 < x13 then (impl_makeChart.l1 of k x0 x14 x13 x14 x0 0 x271000 x271001 x271002) else (some (x271000, x271001, x271002))
def impl_makeChart.l1 (of : Int → Int → Option Int) : Nat → Int → Int → Int → Int → Int → Int → Int → Int → List Int → Option (Int × Int × List Int)
 | 0, _, _, _, _, _, _, _, _, _ => none
 | k + 1, x0, x8, x13, x14, x17, x18, x271000, x271001, x271002 => if x18 < x17 then ((of x8 x18).bind fun t271 => (if x271002.length < 17592186044416 then (impl_makeChart.l1 of k x0 x8 x13 x14 x17 (wrap64 (x18 + 1)) x271000 x271001 (x271002 ++ [t271])) else (none))) else (impl_makeChart.l0 of k x0 x13 (wrap64 (x14 + 1)) x271000 x271001 x271002)
end
def impl_makeChart.f (of : Int → Int → Option Int) (k : Nat) (a0 : Int) (a1 : Int) : Option (Int × Int × List Int) := impl_makeChart.l0 of k a0 a1 0 a0 a1 ([] : List Int)
def impl_makeChart.T8 : Bool × List (List Nat × List Nat) := (true, [([], []), ([0], [0]), ([], []), ([], []), ([], []), ([2, 3, 4], [2, 3, 4]), ([5], [5]), ([1, 6, 5], [1, 6]), ([0, 1, 2, 3, 4, 5, 6, 7], []), ([8, 7, 7, 0, 1, 2, 3, 4, 5, 6, 7], [7, 8])])
def impl_makeChart.B8 : List Nat := [0, 1, 0, 0, 0, 28, 60, 127, 255, 511]
theorem impl_makeChart.tab8 : rtab .any (opsOf Try.f60 8) = impl_makeChart.T8 := by kernel_rfl
theorem impl_makeChart.bits8 : waitsOk impl_makeChart.T8.2 impl_makeChart.B8 = true := by kernel_rfl
theorem impl_makeChart.calls (of : Int → Int → Option Int) (g : Nat) (lb : Array Value) (k : Nat) (a0 : Int) (a1 : Int) (r1 : Int) (r2 : Int) (r3 : List Int) (w : World) (eg : ∀ args w, (callFunc g args).run Try.prog w = .ok (.enter g args) w) (hp : ∀ (W : World) (x y r : Int), Below w.heap.size w W → of x y = some r → Calls Try.prog g (#[.int .i64 x, .int .i64 y] ++ lb) W fun e w' => e = .returned (.int .i64 r) ∧ Below W.heap.size W w') (h : impl_makeChart.f of k a0 a1 = some (r1, r2, r3)) :
  Calls Try.prog 60 #[.int .i64 a0, .int .i64 a1, .func (.func g) #[] lb] w fun e w' => ∃ v2_ : Value, e = .returned (.agg #[.int .i64 r1, .int .i64 r2, v2_]) ∧ Kd.R (Kd.int .i64) 3 w' w.heap.size (fun _ => True) v2_ r3 ∧ Below w.heap.size w w' := by
 have hu28 := Try.underlying28; have HP := Aside0.mk hp; have EG := Aside0.mk eg; clear hp eg; have HB := aM (Below.refl w.heap.size w); have H : (impl_makeChart.l0 of k a0 a1 0 a0 a1 ([] : List Int)) = some (r1, r2, r3) := h; clear h; have H' := Aside0.mk H; clear H
 go_enter Try.func60, Try.ntmps60
 go_wp2_with (first | ((with_reducible refine gate_dst (N := 6) rfl ?_); refine bxE 6 #[.int .i64 0, .int .i64 0, .slice none 0 0] 28 ?_; intro An hg w4 hbox hb; have Ae := aM (hbox); have Bv := gwS hg Z1; have Ai := gwS hg Z1; replace HB := hbS Z1 hb; clear hb hbox hg) | ((with_reducible refine gate_dst (N := 7) rfl ?_); refine bxE 7 #[.int .i64 0, .int .i64 0, .slice none 0 0] 28 ?_; intro Am hg w5 hbox hb; have Ab := aM (hbox); have Bw := gwS hg Z97; have Ak := gwS hg Z97; replace HB := hbS Z97 hb; have Af := nbL hg Ae; have Al := nbG hg Ae; replace Ae := bkB Ae hb; clear hb hbox hg; have B0 := Al.out; have B2 := Af.out; obtain ⟨Aq, Ar, Au⟩ := bz3 Ab; obtain ⟨Av, Aw, Ax⟩ := fz3 Ab))
 go_loopg [14] k (fun kq B3 w' => ∃ (Ah : Int) (Ag : List Int) (Ac : Value), B3 = .int .i64 Ah ∧ Aside0 (impl_makeChart.l0 of kq a0 a1 Ah a0 a1 Ag = some (r1, r2, r3)) ∧ Aside0 (kq ≤ k) ∧ Aside0 (Kd.R (Kd.int .i64) 3 w' w.heap.size (fun _ => True) Ac Ag) ∧ Aside0 (w'.heap[An]? = some (.cells #[.int .i64 0, .int .i64 0, (.slice none 0 0)] 28 (0, 0))) ∧ Aside0 (w'.heap[Am]? = some (.cells #[.int .i64 a0, .int .i64 a1, Ac] 28 (0, 0))) ∧ Aside0 (Below w.heap.size w w'))
 case atStart => exact ⟨(0), (([] : List Int)), (.slice none 0 0), Z25, H', ⟨Nat.le_refl _⟩, ⟨Z200⟩, ⟨by (with_reducible repeat (first | refine blk_drewN ?_ _ | refine blk_drew ?_ | refine blk_alloc ?_ _)); refine blk_far ?_ Af.out _; (with_reducible repeat (first | refine blk_drewN ?_ _ | refine blk_drew ?_ | refine blk_alloc ?_ _)); refine blk_far ?_ Af.out _; (with_reducible repeat (first | refine blk_drewN ?_ _ | refine blk_drew ?_ | refine blk_alloc ?_ _)); refine blk_far ?_ Af.out _; (with_reducible repeat (first | refine blk_drewN ?_ _ | refine blk_drew ?_ | refine blk_alloc ?_ _)); exact Ae.out⟩, ⟨by (with_reducible repeat (first | refine blk_drewN ?_ _ | refine blk_drew ?_ | refine blk_alloc ?_ _)); refine blk_put (cs := #[.int .i64 a0, .int .i64 a1, .slice none 0 0]) ?_ 2 _ rfl; (with_reducible repeat (first | refine blk_drewN ?_ _ | refine blk_drew ?_ | refine blk_alloc ?_ _)); refine blk_put (cs := #[.int .i64 a0, .int .i64 0, .slice none 0 0]) ?_ 1 _ rfl; (with_reducible repeat (first | refine blk_drewN ?_ _ | refine blk_drew ?_ | refine blk_alloc ?_ _)); refine blk_put (cs := #[.int .i64 0, .int .i64 0, .slice none 0 0]) ?_ 0 _ rfl; (with_reducible repeat (first | refine blk_drewN ?_ _ | refine blk_drew ?_ | refine blk_alloc ?_ _)); exact Ab.out⟩, ⟨Z32⟩⟩
 case round =>
  clear H'; (try clear p2); (try clear c6); (try clear Aq); (try clear Ar); (try clear Au); (try clear Av); (try clear Aw); (try clear Ax); obtain ⟨Ah, Ag, Ac, rfl, HA, HK1, Aa, Ae, Ab, HB⟩ := hrel; cases gk with
  | zero => exact absurd HA.out (by simp [impl_makeChart.l0])
  | succ k1 =>
   have H := HA.out; clear HA
   simp only [impl_makeChart.l0] at H
   by_cases c8 : Ah < a1
   ·rw [if_pos c8] at H
    have c8b0 : decide (Ah < a1) = true := decide_eq_true c8; clear c8; have H' := Aside0.mk H; clear H
    go_wp2
    go_loopg [18] k1 (fun kq B4 w' => ∃ (Aj : Int) (Ad : List Int) (Ac : Value), B4 = .int .i64 Aj ∧ Aside0 (impl_makeChart.l1 of kq a0 Ah a1 Ah a0 Aj a0 a1 Ad = some (r1, r2, r3)) ∧ Aside0 (kq ≤ k1) ∧ Aside0 (Kd.R (Kd.int .i64) 3 w' w.heap.size (fun _ => True) Ac Ad) ∧ Aside0 (w'.heap[An]? = some (.cells #[.int .i64 0, .int .i64 0, (.slice none 0 0)] 28 (0, 0))) ∧ Aside0 (w'.heap[Am]? = some (.cells #[.int .i64 a0, .int .i64 a1, Ac] 28 (0, 0))) ∧ Aside0 (Below w.heap.size w w'))
    case atStart => exact ⟨(0), (Ag), (Ac), Z25, H', ⟨Nat.le_refl _⟩, ⟨Z89⟩, ⟨Z148⟩, ⟨Z8⟩, ⟨Z32⟩⟩
    case round =>
     clear H'; (try clear p2); (try clear c6); (try clear c8); (try clear c8b0); (try clear Aq); (try clear Ar); (try clear Au); (try clear Av); (try clear Aw); (try clear Ax); (try clear p2); obtain ⟨Aj, Ad, Ac, rfl, HA, HK2, Aa, Ae, Ab, HB⟩ := hrel; cases gk with
     | zero => exact absurd HA.out (by simp [impl_makeChart.l1])
     | succ k2 =>
      have H := HA.out; clear HA
      simp only [impl_makeChart.l1] at H
      by_cases c9 : Aj < a0
      ·rw [if_pos c9] at H
       have c9b0 : decide (Aj < a0) = true := decide_eq_true c9; clear c9; replace H := Option.bind_eq_some_iff.mp H; obtain ⟨Ay, A8, H⟩ := H; replace H : (if Ad.length < 17592186044416 then (impl_makeChart.l1 of k2 a0 Ah a1 Ah a0 (wrap64 (Aj + 1)) a0 a1 (Ad ++ [Ay])) else (none)) = some (r1, r2, r3) := H; have B5 := Aside0.mk A8; clear A8
       by_cases Bh : Ad.length < 17592186044416
       ·rw [if_pos Bh] at H
        have LMc11 := Aside0.mk Bh; clear Bh; obtain ⟨Az, Ap⟩ : ∃ y_ : List Int, y_ = (Ad ++ [Ay]) := ⟨_, rfl⟩
        replace H : (impl_makeChart.l1 of k2 a0 Ah a1 Ah a0 (wrap64 (Aj + 1)) a0 a1 Az) = some (r1, r2, r3) := by first | (rw [Ap]; with_reducible exact H) | (have H2_ := (Option.bind_some _ _).symm.trans H; rw [Ap]; with_reducible exact H2_) | (have H2_ := (Option.bind_some _ _).symm.trans H; with_reducible exact H2_) | with_reducible exact H | (rw [Ap]; exact H) | exact H
        have Ba := Aside0.mk Ap; clear Ap; have H' := Aside0.mk H; clear H
        try go_wp2
        replace Aa := aM (Kd.R_drew Aa.out); replace Ae := aM (blk_drew Ae.out); replace Ab := aM (blk_drew Ab.out); replace HB := aM (below_drew1 HB.out); refine start_ (n := 10) (S := fun w' => w'.cell? ⟨Am, 0, none⟩ = some (.int .i64 a0) ∧ w'.cell? ⟨Am, 1, none⟩ = some (.int .i64 a1) ∧ w'.cell? ⟨Am, 2, none⟩ = some (Ac)) (ds := [9]) #[false, false, false, false, false, false, false, false, false, false] Z46 rfl rfl ⟨(blk_cell Ab.out 0).trans rfl, (blk_cell Ab.out 1).trans rfl, (blk_cell Ab.out 2).trans rfl⟩ (fun hHeld => ?_); refine with_tabW impl_makeChart.tab8 impl_makeChart.bits8 (fun HT_ HW_ => ?_)
        generalize wr.drew = Ca at Aa Ae Ab HB hHeld ⊢
        refine puR 0 21 #[true, false, false, false, false, false, false, false, false, false] HT_ rfl rfl ?_; refine puR 2 23 #[true, false, true, false, false, false, false, false, false, false] HT_ rfl rfl ?_; refine puR 3 24 #[true, false, true, true, false, false, false, false, false, false] HT_ rfl rfl ?_; refine puR 4 25 #[true, false, true, true, true, false, false, false, false, false] HT_ rfl rfl ?_; refine taR 1 22 #[true, true, true, true, true, false, false, false, false, false] HT_ HW_ hHeld rfl rfl ?_; refine one_ (i := 5) (N := some 26) #[true, true, true, true, true, true, false, false, false, false] rfl rfl (one_of HT_.out Z46) (by decide) (fun K hK => ?_); refine call_ g (#[.int .i64 Ah, .int .i64 Aj] ++ lb) (by rfl) rfl (by unfold execOp; simp [resolve, Deferred.ofValue, invoke, Act.eval, EG.out]) ?_; refine (HP.out _ Ah Aj Ay Z32 B5.out).mono ?_; rintro e Cb ⟨rfl, hb⟩; refine ⟨_, rfl, ?_⟩; replace Aa := roB Aa hb; replace Ae := bkB Ae hb; replace Ab := bkB Ab hb; replace HB := hbS Z32 hb; (try clear hb); (try clear hb2); (try clear hk); (try clear hi); refine hK.out _ _ Z207 (fun hHeld => ?_); clear hK K; refine noR 26 ?_; refine one_ (i := 6) (N := some 27) #[true, true, true, true, true, true, true, false, false, false] rfl rfl (one_of HT_.out Z46) (by decide) (fun K hK => ?_); refine value_ (w1 := ?_) (v := ?_) (by rfl) rfl ?_ ?_
        rotate_left 2
        ·go_simp
         constructor
         ·rfl
         ·rfl
        refine hK.out _ _ (by exact ⟨(blk_cell (blk_alloc Ab.out _) 0).trans rfl, (blk_cell (blk_alloc Ab.out _) 1).trans rfl, (blk_cell (blk_alloc Ab.out _) 2).trans rfl⟩) (fun hHeld => ?_); clear hK K; refine noR 27 ?_; refine one_ (i := 7) (N := some 28) #[true, true, true, true, true, true, true, true, false, false] rfl rfl (one_of HT_.out Z46) (by decide) (fun K hK => ?_); refine Kd.R_append_step (Kd.int .i64) (w0 := w) w.heap.size (by rfl) (.tmp 22) (.tmp 27) 22 3 (.int .i64 0) 8 rfl Try.underlying22 info3 rfl (by decide) (by omega) Ac Ad Ay [.int .i64 Ay] (fun _ => True) (fun _ => False) rfl rfl ?aP (fun _ hk => hk.elim) ?aF ?aO ?aB ?aS ?aL ?_; (case aP => exact rfl); (case aB => exact Z32); (case aF => exact (fun _ _ => trivial)); (case aO => exact Z89); (case aS => exact (below_size Z32)); (case aL => have := LMc11.out; omega); intro B6 B9 ho hb hg hat; rw [← Ba.out] at ho; replace Ae := aM (blk_grown (g := An) (o := .cells #[.int .i64 0, .int .i64 0, .slice none 0 0] 28 (0, 0)) Z148 hg (Kd.R_ne Aa.out Ae.out (by decide))); replace Ab := aM (blk_grown (g := Am) (o := .cells #[.int .i64 a0, .int .i64 a1, Ac] 28 (0, 0)) Z8 hg (Kd.R_ne Aa.out Ab.out (by decide))); replace HB := aM (hb); have A6 := aM (ho); clear Aa; clear ho hb hg hat; obtain ⟨Bb, Bc, Bd⟩ := Kd.R_slice A6.out
        (first | subst Bd | (injection Bd with f1_ f2_ f3_; have f4_ := f1_.symm; have f5_ := f3_.symm; clear f1_ f2_ f3_; subst f4_; subst f5_))
        refine hK.out _ _ Z207 (fun hHeld => ?_); clear hK K; refine noR 28 ?_; refine puR 8 29 #[true, true, true, true, true, true, true, true, true, false] HT_ rfl rfl ?_; refine last_ (i := 9) (N := none) #[true, true, true, true, true, true, true, true, true, true] rfl rfl (one_of HT_.out Z46) (by decide) (fun K hK => ?_); have hs16 : B9.cell? ⟨Am, 2, none⟩ = some (Ac) := (blk_cell Ab.out 2).trans rfl; have hfs16 := blk_frozen Ab.out 2; have hns16_0 := Af.out; have hms16_0 := Al.out; refine skip_ (w1 := ?_) (by rfl) rfl ?_ ?_
        rotate_left
        ·go_simp
         rfl
        refine hK.out _ _ ?_; clear hK K; refine done_ (done_of HT_.out Z46) ?_
        try go_wp2
        go_roundg k2
        case measure => have := HK1.out; have := HK2.out; omega
        case rel => exact ⟨(wrap64 (Aj + 1)), (Az), (.slice Bb Az.length Bc), Z25, H', ⟨by have := HK1.out; have := HK2.out; omega⟩, ⟨by (with_reducible repeat (first | apply Kd.R_alloc | apply Kd.R_drewN | apply Kd.R_drew)); exact Kd.R_mono (Kd.R_far (p := ⟨Am, 2, none⟩) (Kd.R_types A6.out Ab.out (by decide)) (fun _ hk => hk.2) (.slice Bb Az.length Bc)) (fun _ hk => trivial)⟩, ⟨by (with_reducible repeat (first | refine blk_drewN ?_ _ | refine blk_drew ?_ | refine blk_alloc ?_ _)); refine blk_far ?_ Af.out _; (with_reducible repeat (first | refine blk_drewN ?_ _ | refine blk_drew ?_ | refine blk_alloc ?_ _)); exact Ae.out⟩, ⟨by (with_reducible repeat (first | refine blk_drewN ?_ _ | refine blk_drew ?_ | refine blk_alloc ?_ _)); refine blk_put (cs := #[.int .i64 a0, .int .i64 a1, Ac]) ?_ 2 _ rfl; (with_reducible repeat (first | refine blk_drewN ?_ _ | refine blk_drew ?_ | refine blk_alloc ?_ _)); exact Ab.out⟩, ⟨Z32⟩⟩
       ·rw [if_neg Bh] at H
        exact absurd H (by simp)
      ·rw [if_neg c9] at H
       have c9b0 : decide (Aj < a0) = false := decide_eq_false c9; clear c9; have H' := Aside0.mk H; clear H
       go_wp2
       go_roundg k2
       case measure => have := HK1.out; have := HK2.out; omega
       case rel => exact ⟨(wrap64 (Ah + 1)), (Ad), (Ac), Z25, H', ⟨by have := HK1.out; have := HK2.out; omega⟩, ⟨Z89⟩, ⟨Z148⟩, ⟨Z8⟩, ⟨Z32⟩⟩
   ·rw [if_neg c8] at H
    have c8b0 : decide (Ah < a1) = false := decide_eq_false c8; clear c8
    simp only [Option.some.injEq, Prod.mk.injEq] at H
    obtain ⟨rfl, rfl, rfl⟩ := H; have Bx := Al.out; have Bz := Af.out; obtain ⟨Bi, Bj, Bk⟩ := bz3 Ab; obtain ⟨Bl, Bm, Bn⟩ := fz3 Ab; obtain ⟨Bo, Bp, Bq⟩ := bz3 Ae; obtain ⟨Br, Bs, Bt⟩ := fz3 Ae; obtain ⟨Bf, Bg, Bu⟩ := Kd.R_slice Aa.out; subst Bu
    go_wp2
    refine bodyPost_ret (results_cell_row rfl _ _ An 28 #[.int .i64 a0, .int .i64 a1, .slice Bf Ag.length Bg] (0, 0) _ rfl (by (with_reducible repeat (first | refine blk_drewN ?_ _ | refine blk_drew ?_ | refine blk_alloc ?_ _)); refine blk_put (cs := #[.int .i64 a0, .int .i64 a1, .slice none 0 0]) ?_ 2 _ rfl; (with_reducible repeat (first | refine blk_drewN ?_ _ | refine blk_drew ?_ | refine blk_alloc ?_ _)); refine blk_put (cs := #[.int .i64 a0, .int .i64 0, .slice none 0 0]) ?_ 1 _ rfl; (with_reducible repeat (first | refine blk_drewN ?_ _ | refine blk_drew ?_ | refine blk_alloc ?_ _)); refine blk_put (cs := #[.int .i64 0, .int .i64 0, .slice none 0 0]) ?_ 0 _ rfl; (with_reducible repeat (first | refine blk_drewN ?_ _ | refine blk_drew ?_ | refine blk_alloc ?_ _)); exact Ae.out) Try.underlying28 rfl Z46) rfl ?_
    exact ⟨_, Z12, by (with_reducible repeat (first | apply Kd.R_alloc | apply Kd.R_drewN | apply Kd.R_drew)); exact Kd.R_mono (Kd.R_far (p := ⟨An, 2, none⟩) (Kd.R_far (p := ⟨An, 1, none⟩) (Kd.R_far (p := ⟨An, 0, none⟩) (Kd.R_types Aa.out Ae.out (by decide)) (fun _ hk => hk.2) (.int .i64 a0)) (fun _ hk => hk.2) (.int .i64 a1)) (fun _ hk => hk.2) (.slice Bf Ag.length Bg)) (fun _ hk => trivial), Z32⟩
end Go.Proofs.Ytcjalfgnnabghaa.H
