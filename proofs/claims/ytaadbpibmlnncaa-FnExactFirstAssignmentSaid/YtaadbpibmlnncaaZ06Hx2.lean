-- by wip/pack.py of this repo
import Derived.Test.YtaadbpibmlnncaaZ06Hx0
import Derived.Test.YtaadbpibmlnncaaZ06Hx1
import Derived.Test.YtaadbpibmlnncaaZ06WLast
import Derived.Test.YtaadbpibmlnncaaZ06WMore
import Derived.Test.YtaadbpibmlnncaaZ06WRepsOne
import Derived.Test.YtaadbpibmlnncaaZ06WTab
import Derived.Test.YtaadbpibmlnncaaZ06WWords
import Derived.Test.YtaadbpibmlnncaaZ06Short
namespace Go.Proofs.Ytaadbpibmlnncaa.H
open Go.RowKit Go.Proofs.YtaadbpibmlnncaaW.PrintWords Go.Proofs.YtaadbpibmlnncaaW.PrintLast Go.Proofs.YtaadbpibmlnncaaW.PrintMore
attribute [local go_sem] max2_int min2_int max_two min_two max_three min_three max_four min_four
set_option maxHeartbeats 8000000
set_option maxRecDepth 100000
set_option linter.unusedVariables false
set_option linter.unusedSimpArgs false
mutual
def spec_l12Areas.l0 : Nat → List Int → Int → Int → Int → List Int → Option (List Int × Int)
 | 0, _, _, _, _, _ => none
 | k + 1, x4, x5, x144000, x144001, x144002 => if x5 < (x144002.length : Int) then (if x4.length < 17592186044416 then (spec_l12Areas.l0 k (x4 ++ [(-1)]) (wrap64 (x5 + 1)) x144000 x144001 x144002) else (none)) else (spec_l12Areas.l1 k x4 0 0 x144000 x144001 x144002)
def spec_l12Areas.l1 : Nat → List Int → Int → Int → Int → Int → List Int → Option (List Int × Int)
 | 0, _, _, _, _, _, _ => none
 | k + 1, x4, x6, x7, x144000, x144001, x144002 => if x7 < (x4.length : Int) then (if 0 ≤ x7 then (if (rd x4 x7) ≥ 0 then (spec_l12Areas.l1 k x4 x6 (wrap64 (x7 + 1)) x144000 x144001 x144002) else (spec_l12Areas.l2 k (x4.set (x7 : Int).toNat x6) x6 x7 (([x7] : List Int)) 0 x144000 x144001 x144002)) else (none)) else (some (x4, x6))
def spec_l12Areas.l2 : Nat → List Int → Int → Int → List Int → Int → Int → Int → List Int → Option (List Int × Int)
 | 0, _, _, _, _, _, _, _, _ => none
 | k + 1, x4, x6, x7, x8, x9, x144000, x144001, x144002 => if x9 < (x8.length : Int) then (if 0 ≤ x9 then ((spec_l12Next.f k x144000 x144001 x144002 (rd x8 x9)).bind fun t156 => (spec_l12Areas.l3 k x4 x6 x7 x8 x9 t156 0 x144000 x144001 x144002)) else (none)) else (spec_l12Areas.l1 k x4 (wrap64 (x6 + 1)) (wrap64 (x7 + 1)) x144000 x144001 x144002)
def spec_l12Areas.l3 : Nat → List Int → Int → Int → List Int → Int → List Int → Int → Int → Int → List Int → Option (List Int × Int)
 | 0, _, _, _, _, _, _, _, _, _, _ => none
 | k + 1, x4, x6, x7, x8, x9, x10, x11, x144000, x144001, x144002 => if x11 < (x10.length : Int) then (if 0 ≤ x11 then (if 0 ≤ (rd x10 x11) then (if (rd x10 x11) < (x4.length : Int) then (if (rd x4 (rd x10 x11)) < 0 then (if (rd x10 x11) < (x144002.length : Int) then (if 0 ≤ x7 then (if x7 < (x144002.length : Int) then (if (rd x144002 (rd x10 x11)) = (rd x144002 x7) then (if x8.length < 17592186044416 then (spec_l12Areas.l3 k (x4.set ((rd x10 x11) : Int).toNat x6) x6 x7 (x8 ++ [rd x10 x11]) x9 x10 (wrap64 (x11 + 1)) x144000 x144001 x144002) else (none)) else (spec_l12Areas.l3 k x4 x6 x7 x8 x9 x10 (wrap64 (x11 + 1)) x144000 x144001 x144002)) else (none)) else (none)) else (none)) else (spec_l12Areas.l3 k x4 x6 x7 x8 x9 x10 (wrap64 (x11 + 1)) x144000 x144001 x144002)) else (none)) else (none)) else (none)) else (spec_l12Areas.l2 k x4 x6 x7 x8 (wrap64 (x9 + 1)) x144000 x144001 x144002)
end
def spec_l12Areas.f (k : Nat) (a0_0 : Int) (a0_1 : Int) (l0_2 : List Int) : Option (List Int × Int) := spec_l12Areas.l0 k (([] : List Int)) 0 a0_0 a0_1 l0_2
def spec_l12Areas.T20 : Bool × List (List Nat × List Nat) := (true, [([], []), ([], []), ([], []), ([1, 2], [1, 2]), ([3], [3]), ([0, 4], [0, 4]), ([5], [5]), ([6], [6]), ([7], [7]), ([8], [8]), ([9, 8], [8, 9]), ([8], [8]), ([8], [8]), ([11, 12, 8], [8, 11, 12]), ([13, 8], [8, 13]), ([10, 14, 8], [8, 10, 14]), ([15, 8], [8, 15]), ([8], [8]), ([17, 8], [8, 17]), ([8], [8]), ([18, 19, 8], [8, 18, 19]), ([20, 8], [8, 20]), ([16, 21, 8], [8, 16, 21]), ([8, 22], [8, 22])])
def spec_l12Areas.B20 : List Nat := [0, 0, 0, 6, 14, 31, 63, 127, 255, 511, 1023, 511, 511, 6655, 14847, 32767, 65535, 511, 131583, 511, 918015, 1966591, 4194303, 8388607]
theorem spec_l12Areas.tab20 : rtab .any (opsOf Try.f44 20) = spec_l12Areas.T20 := by kernel_rfl
theorem spec_l12Areas.bits20 : waitsOk spec_l12Areas.T20.2 spec_l12Areas.B20 = true := by kernel_rfl
theorem spec_l12Areas.calls (k : Nat) (Ao : Int) (Ap : Int) (Bg : Option Addr) (Ba : Nat) (Af : List Int) (r1 : List Int) (r2 : Int) (w : World) (Ct : Kd.C (Kd.int .i64) w Bg Af.length Af) (Cu : Af.length ≤ Ba) (h : spec_l12Areas.f k Ao Ap Af = some (r1, r2)) :
  Calls Try.prog 44 #[.agg #[.int .i64 Ao, .int .i64 Ap, .slice Bg Af.length Ba]] w fun e w' => ∃ v0_ : Value, e = .returned (.tuple #[v0_, .int .i64 r2]) ∧ Kd.R (Kd.int .i64) 3 w' w.heap.size (fun _ => True) v0_ r1 ∧ Below w.heap.size w w' := by
 have hu28 := Try.underlying28; have Bq := Aside0.mk Ct; have De := Aside0.mk Cu; clear Ct Cu; have HB := aM (Below.refl w.heap.size w); have H : (spec_l12Areas.l0 k (([] : List Int)) 0 Ao Ap Af) = some (r1, r2) := h; clear h; obtain ⟨Df, Br⟩ : ∃ y_ : List Int, y_ = (([] : List Int)) := ⟨_, rfl⟩
 replace H : (spec_l12Areas.l0 k Df 0 Ao Ap Af) = some (r1, r2) := by first | (rw [Br]; with_reducible exact H) | (have H2_ := (Option.bind_some _ _).symm.trans H; rw [Br]; with_reducible exact H2_) | (have H2_ := (Option.bind_some _ _).symm.trans H; with_reducible exact H2_) | with_reducible exact H | (rw [Br]; exact H) | exact H
 have Cv := Aside0.mk Br; clear Br; have H' := Aside0.mk H; clear H
 go_enter Try.func44, Try.ntmps44
 go_wp2_with (first | ((with_reducible refine gate_dst (N := 1) rfl ?_); refine bxE 1 #[.int .i64 Ao, .int .i64 Ap, .slice Bg Af.length Ba] 28 ?_; intro Aq hg w2 hbox hb; have Ab := aM (hbox); have Et := gwS hg Z0; have Ak := gwS hg Z0; replace HB := hbS Z0 hb; clear hb hbox hg) | ((with_reducible refine gate_dst (N := 12) rfl ?_); refine Kd.R_lit (Kd.int .i64) _ 3 ?hg (N := 12) ?hd (xs := ([] : List Int)) (inner := []) (ok := fun _ => True) (okp := fun _ => True) ?hr ?hp (fun _ hk => hk) trivial (Below.refl _ _) (Nat.le_refl _) (by simp) ?_; (case hd => rfl); (case hg => rfl); (case hr => first | (go_simp; done) | (go_simp; rfl)); (case hp => exact (Reps.none _ _)); intro Ey w3 Dg hb hg_ hnew_; clear hg_ hnew_; (first | rw [← Cv.out] at Dg | (simp only [Int.reduceToNat] at Dg; rw [← Cv.out] at Dg)); have Dh := aM (Kd.R_lower Dg (below_size Z10)); replace Ab := bkB Ab hb; replace HB := hbS Z10 hb; clear hb Dg))
 go_loopg [4, 5] k (fun kq v4 v5 w' => ∃ (Bz : List Int) (Bs : Int), v5 = .int .i64 Bs ∧ Aside0 (spec_l12Areas.l0 kq Bz Bs Ao Ap Af = some (r1, r2)) ∧ Aside0 (kq ≤ k) ∧ Aside0 (Kd.R (Kd.int .i64) 3 w' w.heap.size (fun _ => True) v4 Bz) ∧ Aside0 (w'.heap[Aq]? = some (.cells #[.int .i64 Ao, .int .i64 Ap, (.slice Bg Af.length Ba)] 28 (0, 0))) ∧ Aside0 (Below w.heap.size w w'))
 case atStart => exact ⟨(Df), (0), Z7, H', ⟨Nat.le_refl _⟩, ⟨by (with_reducible repeat (first | apply Kd.R_alloc | apply Kd.R_drewN | apply Kd.R_drew)); exact Dh.out⟩, ⟨Z9⟩, ⟨Z10⟩⟩
 case round =>
  clear H'; (try clear p2); (try clear c4); obtain ⟨Bz, Bs, rfl, HA, HK1, Ad, Ab, HB⟩ := hrel; cases gk with
  | zero => exact absurd HA.out (by simp [spec_l12Areas.l0])
  | succ k1 =>
   have H := HA.out; clear HA
   simp only [spec_l12Areas.l0] at H
   by_cases c5 : Bs < (Af.length : Int)
   ·rw [if_pos c5] at H
    have c5b0 : decide (Bs < (Af.length : Int)) = true := decide_eq_true c5; clear c5
    by_cases c6 : Bz.length < 17592186044416
    ·rw [if_pos c6] at H
     have LMc6 := Aside0.mk c6; clear c6; obtain ⟨Di, Bt⟩ : ∃ y_ : List Int, y_ = (Bz ++ [(-1)]) := ⟨_, rfl⟩
     replace H : (spec_l12Areas.l0 k1 Di (wrap64 (Bs + 1)) Ao Ap Af) = some (r1, r2) := by first | (rw [Bt]; with_reducible exact H) | (have H2_ := (Option.bind_some _ _).symm.trans H; rw [Bt]; with_reducible exact H2_) | (have H2_ := (Option.bind_some _ _).symm.trans H; with_reducible exact H2_) | with_reducible exact H | (rw [Bt]; exact H) | exact H
     have Dj := Aside0.mk Bt; clear Bt; have H' := Aside0.mk H; clear H; obtain ⟨B0, B2, B4⟩ := bz3 Ab; obtain ⟨B5, B6, B7⟩ := fz3 Ab
     go_wp2_with (first | ((with_reducible refine gate_builtin (b := .append) (xs := #[.tmp 20, .tmp 21]) rfl ?_); at_builtin; refine Kd.R_append (Kd.int .i64) (w0 := w) w.heap.size rfl (.tmp 20) (.tmp 21) 22 3 (.int .i64 0) 8 rfl Try.underlying22 info3 rfl (by decide) (by omega) u4 Bz (-1) [.int .i64 (-1)] (fun _ => True) (fun _ => False) rfl rfl ?aP (fun _ hk => hk.elim) ?aF ?aO ?aB ?aS ?aL ?_; (case aP => exact rfl); (case aB => exact Z10); (case aF => exact (fun _ _ => trivial)); (case aO => exact Z18); (case aS => exact (below_size Z10)); (case aL => have := LMc6.out; omega); intro Ez w8 ho hb hg hat; rw [← Dj.out] at ho; replace Ab := aM (blk_grown (g := Aq) (o := .cells #[.int .i64 Ao, .int .i64 Ap, .slice Bg Af.length Ba] 28 (0, 0)) Z9 hg (Kd.R_ne Ad.out Ab.out (by decide))); replace HB := aM (hb); have Dk := aM (ho); clear Ad; clear ho hb hg hat))
     go_roundg k1
     case measure => have := HK1.out; omega
     case rel => exact ⟨(Di), (wrap64 (Bs + 1)), Z7, H', ⟨Z66⟩, ⟨by (with_reducible repeat (first | apply Kd.R_alloc | apply Kd.R_drewN | apply Kd.R_drew)); exact Dk.out⟩, ⟨Z9⟩, ⟨Z10⟩⟩
    ·rw [if_neg c6] at H
     exact absurd H (by simp)
   ·rw [if_neg c5] at H
    have c5b0 : decide (Bs < (Af.length : Int)) = false := decide_eq_false c5; clear c5; have H' := Aside0.mk H; clear H; obtain ⟨Ca, Cb, Cc⟩ := bz3 Ab; obtain ⟨Cd, Ce, Cf⟩ := fz3 Ab
    go_wp2
    go_loopg [6, 7] k1 (fun kq v6 v7 w' => ∃ (Az : List Int) (Ay : Int) (Ae : Int), v6 = .int .i64 Ay ∧ v7 = .int .i64 Ae ∧ Aside0 (spec_l12Areas.l1 kq Az Ay Ae Ao Ap Af = some (r1, r2)) ∧ Aside0 (kq ≤ k1) ∧ Aside0 (Kd.R (Kd.int .i64) 3 w' w.heap.size (fun _ => True) u4 Az) ∧ Aside0 (w'.heap[Aq]? = some (.cells #[.int .i64 Ao, .int .i64 Ap, (.slice Bg Af.length Ba)] 28 (0, 0))) ∧ Aside0 (Below w.heap.size w w'))
    case atStart => exact ⟨(Bz), (0), (0), Z7, Z7, H', ⟨Nat.le_refl _⟩, ⟨Z18⟩, ⟨Z9⟩, ⟨Z10⟩⟩
    case round =>
     clear H'; (try clear p2); (try clear c4); (try clear c5); (try clear c5b0); (try clear c6); (try clear p6); (try clear B0); (try clear B2); (try clear B4); (try clear Ca); (try clear Cb); (try clear Cc); (try clear B5); (try clear B6); (try clear B7); (try clear Cd); (try clear Ce); (try clear Cf); (try clear p2); obtain ⟨Az, Ay, Ae, rfl, rfl, HA, HK2, Ad, Ab, HB⟩ := hrel; cases gk with
     | zero => exact absurd HA.out (by simp [spec_l12Areas.l1])
     | succ k2 =>
      have H := HA.out; clear HA
      simp only [spec_l12Areas.l1] at H
      by_cases Cw : Ae < (Az.length : Int)
      ·rw [if_pos Cw] at H
       have c10b0 : decide (Ae < (Az.length : Int)) = true := decide_eq_true Cw; clear Cw
       by_cases Db : 0 ≤ Ae
       ·rw [if_pos Db] at H
        have c11b0 : decide (0 ≤ Ae) = true := decide_eq_true Db; clear Db
        by_cases Cx : (rd Az Ae) ≥ 0
        ·rw [if_pos Cx] at H
         have c12b0 : decide (0 ≤ (rd Az Ae)) = true := decide_eq_true Cx; clear Cx; have H' := Aside0.mk H; clear H; obtain ⟨E0, E2, D9⟩ := Kd.R_slice Ad.out; subst D9; have Bm : 0 ≤ (Ae : Int) := of_decide_eq_true Z3; have Bn : Ae < (Az.length : Int) := of_decide_eq_true Z3; obtain ⟨ad150, e150, Bf⟩ := Kd.at_int (Kd.R_reads' Ad.out).2.2 Ae Bm Bn; cases e150; replace Bm := eq_true Bm; replace Bn := eq_true Bn
         go_wp2
         go_roundg k2
         case measure => have := HK1.out; have := HK2.out; omega
         case rel => exact ⟨(Az), (Ay), (wrap64 (Ae + 1)), Z7, Z7, H', ⟨by have := HK1.out; have := HK2.out; omega⟩, ⟨Z18⟩, ⟨Z9⟩, ⟨Z10⟩⟩
        ·rw [if_neg Cx] at H
         have c12b0 : decide (0 ≤ (rd Az Ae)) = false := decide_eq_false Cx; clear Cx; obtain ⟨Co, Bu⟩ : ∃ y_ : List Int, y_ = (Az.set (Ae : Int).toNat Ay) := ⟨_, rfl⟩
         replace H : (spec_l12Areas.l2 k2 Co Ay Ae (([Ae] : List Int)) 0 Ao Ap Af) = some (r1, r2) := by first | (rw [Bu]; with_reducible exact H) | (have H2_ := (Option.bind_some _ _).symm.trans H; rw [Bu]; with_reducible exact H2_) | (have H2_ := (Option.bind_some _ _).symm.trans H; with_reducible exact H2_) | with_reducible exact H | (rw [Bu]; exact H) | exact H
         have Dl := Aside0.mk Bu; clear Bu; obtain ⟨Dm, Bv⟩ : ∃ y_ : List Int, y_ = (([Ae] : List Int)) := ⟨_, rfl⟩
         replace H : (spec_l12Areas.l2 k2 Co Ay Ae Dm 0 Ao Ap Af) = some (r1, r2) := by first | (rw [Bv]; with_reducible exact H) | (have H2_ := (Option.bind_some _ _).symm.trans H; rw [Bv]; with_reducible exact H2_) | (have H2_ := (Option.bind_some _ _).symm.trans H; with_reducible exact H2_) | with_reducible exact H | (rw [Bv]; exact H) | exact H
         have Cy := Aside0.mk Bv; clear Bv; have H' := Aside0.mk H; clear H; obtain ⟨E3, Bc, Ea⟩ := Kd.R_slice Ad.out; subst Ea; have Bm : 0 ≤ (Ae : Int) := of_decide_eq_true Z3; have Bn : Ae < (Az.length : Int) := of_decide_eq_true Z3; obtain ⟨ad150, e150, Bf⟩ := Kd.at_int (Kd.R_reads' Ad.out).2.2 Ae Bm Bn; cases e150; replace Bm := eq_true Bm; replace Bn := eq_true Bn; have Cz : 0 ≤ (Ae : Int) := of_decide_eq_true Z3; have C0 : (Ae : Int) < ((Az.length : Int) : Int) := of_decide_eq_true Z3; obtain ⟨Au, E4, Dn, Dp, gl14, cl14, HG14⟩ := Kd.R_form Ad.out (by omega)
         (first | cases Dn | (injection Dn with ea_ en_ ec_; (first | subst ea_ | (injection ea_ with ea_; subst ea_)); subst ec_; clear en_))
         have Dq := Aside0.mk Dp; have E5 := Aside0.mk HG14; clear Dp gl14 HG14
         (first | simp only [add_plain] at Bf | skip)
         obtain ⟨Cn, Eb⟩ := Kd.R_celln 0 Ad.out (Ae : Int) Cz C0; replace Cz := eq_true Cz; replace C0 := eq_true C0; have C1 := Kd.R_putg Ad.out (Ae : Int) Ay
         go_wp2_with (first | ((with_reducible refine gate_store (t := 3) (p := 37) rfl ?_); refine store_event (t := 3) (p := 37) (v := ?vo_w17) (w1 := (wr.setCell ⟨Au, (Ae : Int).toNat, none⟩ (.int .i64 Ay))) ?hg ?ho ?hn ?hr ?_; (case ho => rfl); (case hg => rfl); (case hn => rfl); (case hr => first | (go_simp; done) | (go_simp; rfl)); intro Ec hw; have hg : wr.grownBy Ec (some Au) := (by rw [hw]; exact C1.2); have hp_ : Kd.R (Kd.int .i64) 3 Ec w.heap.size (fun _ => True) (.slice (some ⟨Au, 0, none⟩) Az.length Bc) Co := (by rw [hw, Dl.out]; exact C1.1); clear C1; replace Ab := aM (blk_grown (g := Aq) (o := .cells #[.int .i64 Ao, .int .i64 Ap, .slice Bg Af.length Ba] 28 (0, 0)) Z9 hg (Kd.R_ne Ad.out Ab.out (by decide))); replace Ad := aM (hp_); replace HB := aM ((by rw [hw]; exact below_set (HB.out) Dq.out : Below w.heap.size w Ec)); clear hg hw hp_) | ((with_reducible refine gate_dst (N := 39) rfl ?_); refine Kd.R_lit (Kd.int .i64) _ 3 ?hg (N := 39) ?hd (xs := ([Ae] : List Int)) (inner := [.int .i64 Ae]) (ok := fun _ => True) (okp := fun _ => True) ?hr ?hp (fun _ hk => hk) trivial (Below.refl _ _) (Nat.le_refl _) (by simp) ?_; (case hd => rfl); (case hg => rfl); (case hr => first | (go_simp; done) | (go_simp; rfl)); (case hp => exact (Reps.one (show Kd.M (Kd.int .i64) _ _ _ Ae [.int .i64 Ae] from rfl) (Reps.none _ _))); intro E6 Fq Cm hb hg_ hnew_; clear hg_ hnew_; (first | rw [← Cy.out] at Cm | (simp only [Int.reduceToNat] at Cm; rw [← Cy.out] at Cm)); have Dr := aM (Kd.R_lower (Kd.R_new' Cm (Kd.R_lt Z18)) (below_size Z10)); replace Ad := aM (Kd.R_elder' Z18 (Kd.R_base Cm) hb); replace Ab := bkB Ab hb; replace HB := hbS Z10 hb; clear hb Cm))
         go_loopg [8, 9] k2 (fun kq v8 v9 w' => ∃ (Bo : List Int) (Bd : List Int) (Ax : Int), v9 = .int .i64 Ax ∧ Aside0 (spec_l12Areas.l2 kq Bo Ay Ae Bd Ax Ao Ap Af = some (r1, r2)) ∧ Aside0 (kq ≤ k2) ∧ Aside0 (Kd.R (Kd.int .i64) 3 w' w.heap.size (fun k_ => nV k_ v8) (.slice (some ⟨Au, 0, none⟩) Az.length Bc) Bo) ∧ Aside0 (Kd.R (Kd.int .i64) 3 w' w.heap.size (fun k_ => some k_ ≠ ((.slice (some ⟨Au, 0, none⟩) Az.length Bc) : Value).ownBlock) v8 Bd) ∧ Aside0 (w'.heap[Aq]? = some (.cells #[.int .i64 Ao, .int .i64 Ap, (.slice Bg Af.length Ba)] 28 (0, 0))) ∧ Aside0 (Below w.heap.size w w'))
         case atStart => exact ⟨(Co), (Dm), (0), Z7, H', ⟨Nat.le_refl _⟩, ⟨by (with_reducible repeat (first | apply Kd.R_alloc | apply Kd.R_drewN | apply Kd.R_drew)); exact Kd.R_mono Ad.out (fun _ hk => hk.2)⟩, ⟨by (with_reducible repeat (first | apply Kd.R_alloc | apply Kd.R_drewN | apply Kd.R_drew)); exact Kd.R_mono Dr.out (fun _ hk => hk.2)⟩, ⟨Z9⟩, ⟨Z10⟩⟩
         case round =>
          clear H'; (try clear c1); (try clear p1); (try clear q1); (try clear E7); (try clear E8); (try clear p2); (try clear c4); (try clear c5); (try clear c5b0); (try clear c6); (try clear p6); (try clear Cw); (try clear c10b0); (try clear Db); (try clear c11b0); (try clear Cx); (try clear c12b0); (try clear Cz); (try clear C0); (try clear Ed); (try clear Ee); (try clear Eu); (try clear Ew); (try clear Ef); (try clear B0); (try clear B2); (try clear B4); (try clear Ca); (try clear Cb); (try clear Cc); (try clear B5); (try clear B6); (try clear B7); (try clear Cd); (try clear Ce); (try clear Cf); (try clear Cn); (try clear Bf); (try clear Cz); (try clear Bm); (try clear p2); (try clear p6); (try clear C0); (try clear Bn); obtain ⟨Bo, Bd, Ax, rfl, HA, HK3, Ad, Al, Ab, HB⟩ := hrel; have Ag := (Kd.R_reads' Ad.out).1; rw [Ag] at Ad
          (try simp only [Ag])
          (try simp only [Ag] at Ab)
          (try simp only [Ag] at Al)
          cases gk with
          | zero => exact absurd HA.out (by simp [spec_l12Areas.l2])
          | succ k3 =>
           have H := HA.out; clear HA
           simp only [spec_l12Areas.l2] at H
           by_cases C3 : Ax < (Bd.length : Int)
           ·rw [if_pos C3] at H
            have c20b0 : decide (Ax < (Bd.length : Int)) = true := decide_eq_true C3
            (try simp only [Ag] at c20b0)
            clear C3
            by_cases Ds : 0 ≤ Ax
            ·rw [if_pos Ds] at H
             have c21b0 : decide (0 ≤ Ax) = true := decide_eq_true Ds; clear Ds; replace H := Option.bind_eq_some_iff.mp H; obtain ⟨Ac, Dt, H⟩ := H; replace H : (spec_l12Areas.l3 k3 Bo Ay Ae Bd Ax Ac 0 Ao Ap Af) = some (r1, r2) := H; have E9 := Aside0.mk Dt; clear Dt; have H' := Aside0.mk H; clear H; obtain ⟨Fa, Fb, Eg⟩ := Kd.R_slice Al.out; subst Eg
             try go_wp2
             replace Ad := aM (Kd.R_drew Ad.out); replace Al := aM (Kd.R_drew Al.out); replace Ab := aM (blk_drew Ab.out); replace HB := aM (below_drew1 HB.out); have Cp : 0 ≤ (Ax : Int) := of_decide_eq_true Z3; have Cq : Ax < (Bd.length : Int) := of_decide_eq_true Z3; obtain ⟨ad155, e155, Bp⟩ := Kd.at_int (Kd.R_reads' Al.out).2.2 Ax Cp Cq; cases e155; replace Cp := eq_true Cp; replace Cq := eq_true Cq; refine start_ (n := 7) (S := fun w' => w'.cell? ⟨Aq, 0, none⟩ = some (.int .i64 Ao) ∧ w'.cell? ⟨Aq, 1, none⟩ = some (.int .i64 Ap) ∧ w'.cell? ⟨Aq, 2, none⟩ = some (.slice Bg Af.length Ba) ∧ w'.cell? (ad155.add (Ax).toNat) = some (.int .i64 (rd Bd Ax))) (ds := []) #[false, false, false, false, false, false, false] Z33 rfl rfl ⟨(blk_cell Ab.out 0).trans rfl, (blk_cell Ab.out 1).trans rfl, (blk_cell Ab.out 2).trans rfl, Bp⟩ (fun hHeld => ?_)
             generalize wr.drew = Fr at Ad Al Ab HB Bp hHeld ⊢
             refine puK 1 47 #[false, true, false, false, false, false, false] rfl rfl ?_; refine puK 2 48 #[false, true, true, false, false, false, false] rfl rfl ?_; refine puK 3 49 #[false, true, true, true, false, false, false] rfl rfl ?_; refine taK 0 46 #[true, true, true, true, false, false, false] hHeld rfl rfl ?_; refine taK 4 50 #[true, true, true, true, true, false, false] hHeld rfl rfl ?_; refine one_ (i := 5) (N := some 51) #[true, true, true, true, true, true, false] rfl rfl Z33 (by decide) (fun K hK => ?_); refine goes_ Try.func66 Z33 rfl #[.agg #[.int .i64 Ao, .int .i64 Ap, .slice Bg Af.length Ba], .int .i64 (rd Bd Ax)] (by rfl) rfl rfl Z52 ?_; (with_reducible refine (spec_l12Next.calls k3 Ao Ap _ _ Af (rd Bd Ax) Ac _ ?side1 ?side2 E9.out).mono ?_); (case side1 => exact Z53); (case side2 => exact De.out); rintro e Fs ⟨C4, rfl, Dz, hb⟩; have HS3_ := (hb.cell (World.block_lt_of_cell? _ _ (hHeld.2.2.2))).trans (hHeld.2.2.2); refine ⟨_, rfl, ?_⟩; have Du := aM (Kd.R_lower (Kd.R_new' (Kd.R_new' Dz (Kd.R_lt Z18)) (Kd.R_lt Z34)) (below_size Z10)); replace Ad := aM (Kd.R_elder' Z18 (Kd.R_base Dz) hb); replace Al := aM (Kd.R_elder' Z34 (Kd.R_base Dz) hb); replace Ab := bkB Ab hb; replace HB := hbS Z10 hb; (try clear hb); (try clear hb2); (try clear hk); (try clear hi); (try clear Dz); refine hK.out _ _ (by exact ⟨(blk_cell Ab.out 0).trans rfl, (blk_cell Ab.out 1).trans rfl, (blk_cell Ab.out 2).trans rfl, HS3_⟩) (fun hHeld => ?_); clear hK K; refine noR 51 ?_; refine puK 6 10 #[true, true, true, true, true, true, true] rfl rfl ?_; refine done_ Z33 ?_
             try go_wp2
             go_loopg [8, 11] k3 (fun kq v8 Fc w' => ∃ (Ar : List Int) (Bh : List Int) (Aa : Int), Fc = .int .i64 Aa ∧ Aside0 (spec_l12Areas.l3 kq Ar Ay Ae Bh Ax Ac Aa Ao Ap Af = some (r1, r2)) ∧ Aside0 (kq ≤ k3) ∧ Aside0 (Kd.R (Kd.int .i64) 3 w' w.heap.size (fun k_ => nV k_ v8 ∧ nV k_ C4) (.slice (some ⟨Au, 0, none⟩) Bo.length Bc) Ar) ∧ Aside0 (Kd.R (Kd.int .i64) 3 w' w.heap.size (fun k_ => some k_ ≠ ((.slice (some ⟨Au, 0, none⟩) Bo.length Bc) : Value).ownBlock ∧ nV k_ C4) v8 Bh) ∧ Aside0 (Kd.R (Kd.int .i64) 3 w' w.heap.size (fun k_ => some k_ ≠ ((.slice (some ⟨Au, 0, none⟩) Bo.length Bc) : Value).ownBlock ∧ nV k_ v8) C4 Ac) ∧ Aside0 (w'.heap[Aq]? = some (.cells #[.int .i64 Ao, .int .i64 Ap, (.slice Bg Af.length Ba)] 28 (0, 0))) ∧ Aside0 (Below w.heap.size w w'))
             case atStart => exact ⟨(Bo), (Bd), (0), Z7, H', ⟨Nat.le_refl _⟩, ⟨by (try simp only [Ag]); (with_reducible repeat (first | apply Kd.R_alloc | apply Kd.R_drewN | apply Kd.R_drew)); exact Ad.out⟩, ⟨by (try simp only [Ag]); (with_reducible repeat (first | apply Kd.R_alloc | apply Kd.R_drewN | apply Kd.R_drew)); exact Al.out⟩, ⟨by (try simp only [Ag]); (with_reducible repeat (first | apply Kd.R_alloc | apply Kd.R_drewN | apply Kd.R_drew)); exact Kd.R_mono Du.out (fun _ hk => ⟨hk.1.2, hk.2⟩)⟩, ⟨Z115⟩, ⟨Z10⟩⟩
             case round =>
              clear H'; (try clear c1); (try clear p1); (try clear q1); (try clear E7); (try clear E8); (try clear c2); (try clear p2); (try clear c4); (try clear c5); (try clear c5b0); (try clear c6); (try clear p6); (try clear Cw); (try clear c10b0); (try clear Db); (try clear c11b0); (try clear Cx); (try clear c12b0); (try clear Cz); (try clear C0); (try clear Ed); (try clear Ee); (try clear Eu); (try clear Ew); (try clear Ef); (try clear C3); (try clear c20b0); (try clear Ds); (try clear c21b0); (try clear B0); (try clear B2); (try clear B4); (try clear Ca); (try clear Cb); (try clear Cc); (try clear B5); (try clear B6); (try clear B7); (try clear Cd); (try clear Ce); (try clear Cf); (try clear Cn); (try clear Bf); (try clear Bp); (try clear p1); (try clear Cz); (try clear Eu); (try clear Bm); (try clear Cp); (try clear p2); (try clear p6); (try clear q1); (try clear C0); (try clear Ew); (try clear Bn); (try clear Cq); obtain ⟨Ar, Bh, Aa, rfl, HA, HK4, Ad, Al, Ah, Ab, HB⟩ := hrel; have Ai := (Kd.R_reads' Ad.out).1; rw [Ai] at Ad
              (try simp only [Ai])
              (try simp only [Ai] at Ab)
              (try simp only [Ai] at Al)
              (try simp only [Ai] at Ah)
              cases gk with
              | zero => exact absurd HA.out (by simp [spec_l12Areas.l3])
              | succ k4 =>
               have H := HA.out; clear HA
               simp only [spec_l12Areas.l3] at H
               by_cases Dc : Aa < (Ac.length : Int)
               ·rw [if_pos Dc] at H
                have c26b0 : decide (Aa < (Ac.length : Int)) = true := decide_eq_true Dc
                (try simp only [Ag, Ai] at c26b0)
                clear Dc
                by_cases D0 : 0 ≤ Aa
                ·rw [if_pos D0] at H
                 have c27b0 : decide (0 ≤ Aa) = true := decide_eq_true D0; clear D0
                 by_cases D1 : 0 ≤ (rd Ac Aa)
                 ·rw [if_pos D1] at H
                  have c28b0 : decide (0 ≤ (rd Ac Aa)) = true := decide_eq_true D1; clear D1
                  by_cases D2 : (rd Ac Aa) < (Ar.length : Int)
                  ·rw [if_pos D2] at H
                   have c29b0 : decide ((rd Ac Aa) < (Ar.length : Int)) = true := decide_eq_true D2
                   (try simp only [Ag, Ai] at c29b0)
                   clear D2
                   by_cases Dd : (rd Ar (rd Ac Aa)) < 0
                   ·rw [if_pos Dd] at H
                    have c30b0 : decide ((rd Ar (rd Ac Aa)) < 0) = true := decide_eq_true Dd; clear Dd
                    by_cases D3 : (rd Ac Aa) < (Af.length : Int)
                    ·rw [if_pos D3] at H
                     have c31b0 : decide ((rd Ac Aa) < (Af.length : Int)) = true := decide_eq_true D3
                     (try simp only [Ag, Ai] at c31b0)
                     clear D3
                     by_cases D4 : 0 ≤ Ae
                     ·rw [if_pos D4] at H
                      have c32b0 : decide (0 ≤ Ae) = true := decide_eq_true D4; clear D4
                      by_cases D5 : Ae < (Af.length : Int)
                      ·rw [if_pos D5] at H
                       have c33b0 : decide (Ae < (Af.length : Int)) = true := decide_eq_true D5
                       (try simp only [Ag, Ai] at c33b0)
                       clear D5
                       by_cases C5 : (rd Af (rd Ac Aa)) = (rd Af Ae)
                       ·rw [if_pos C5] at H
                        have c34b0 : ((rd Af (rd Ac Aa)) == (rd Af Ae)) = true := beq_iff_eq.mpr C5; have c34b1 : ((rd Af (rd Ac Aa)) != (rd Af Ae)) = false := bne_eq_false_iff_eq.mpr C5; clear C5; obtain ⟨Cr, Bw⟩ : ∃ y_ : List Int, y_ = (Ar.set ((rd Ac Aa) : Int).toNat Ay) := ⟨_, rfl⟩
                        replace H : (if Bh.length < 17592186044416 then (spec_l12Areas.l3 k4 Cr Ay Ae (Bh ++ [rd Ac Aa]) Ax Ac (wrap64 (Aa + 1)) Ao Ap Af) else (none)) = some (r1, r2) := by first | (rw [Bw]; with_reducible exact H) | (have H2_ := (Option.bind_some _ _).symm.trans H; rw [Bw]; with_reducible exact H2_) | (have H2_ := (Option.bind_some _ _).symm.trans H; with_reducible exact H2_) | with_reducible exact H | (rw [Bw]; exact H) | exact H
                        have Dv := Aside0.mk Bw; clear Bw
                        by_cases D6 : Bh.length < 17592186044416
                        ·rw [if_pos D6] at H
                         have LMc36 := Aside0.mk D6; clear D6; obtain ⟨Dw, Bx⟩ : ∃ y_ : List Int, y_ = (Bh ++ [rd Ac Aa]) := ⟨_, rfl⟩
                         replace H : (spec_l12Areas.l3 k4 Cr Ay Ae Dw Ax Ac (wrap64 (Aa + 1)) Ao Ap Af) = some (r1, r2) := by first | (rw [Bx]; with_reducible exact H) | (have H2_ := (Option.bind_some _ _).symm.trans H; rw [Bx]; with_reducible exact H2_) | (have H2_ := (Option.bind_some _ _).symm.trans H; with_reducible exact H2_) | with_reducible exact H | (rw [Bx]; exact H) | exact H
                         have Dx := Aside0.mk Bx; clear Bx; have H' := Aside0.mk H; clear H; obtain ⟨Fd, Cs, Eh⟩ := Kd.R_slice Ah.out; subst Eh
                         try go_wp2
                         replace Ad := aM (Kd.R_drew Ad.out); replace Al := aM (Kd.R_drew Al.out); replace Ah := aM (Kd.R_drew Ah.out); replace Ab := aM (blk_drew Ab.out); replace HB := aM (below_drew1 HB.out); have Bi : 0 ≤ (Aa : Int) := of_decide_eq_true Z3; have Bj : Aa < (Ac.length : Int) := of_decide_eq_true Z3; obtain ⟨ad159, e159, Aw⟩ := Kd.at_int (Kd.R_reads' Ah.out).2.2 Aa Bi Bj; cases e159; replace Bi := eq_true Bi; replace Bj := eq_true Bj; have Bk : 0 ≤ ((rd Ac Aa) : Int) := of_decide_eq_true Z3; have Bl : (rd Ac Aa) < (Ar.length : Int) := of_decide_eq_true Z3; obtain ⟨ad160, e160, Aj⟩ := Kd.at_int (Kd.R_reads' Ad.out).2.2 (rd Ac Aa) Bk Bl; obtain rfl : (⟨Au, 0, none⟩ : Addr) = ad160 := (by injection e160)
                         (first | simp only [add_plain] at Aj | simp only [add_at] at Aj | simp only [Addr.add, Nat.zero_add] at Aj | skip)
                         replace Bk := eq_true Bk; replace Bl := eq_true Bl; have Cg : 0 ≤ (Aa : Int) := of_decide_eq_true Z3; have Ch : Aa < (Ac.length : Int) := of_decide_eq_true Z3; obtain ⟨ad161, e161, Bb⟩ := Kd.at_int (Kd.R_reads' Ah.out).2.2 Aa Cg Ch; obtain rfl : ad159 = ad161 := (by injection e161); replace Cg := eq_true Cg; replace Ch := eq_true Ch; have Ci : 0 ≤ ((rd Ac Aa) : Int) := of_decide_eq_true Z3; have Cj : (rd Ac Aa) < (Af.length : Int) := of_decide_eq_true Z3; obtain ⟨ad162, e162, Am⟩ := Kd.at_int Bq.out (rd Ac Aa) Ci Cj; have hw162_0 := Am; cases e162; replace Am := (HB.out.cell (World.block_lt_of_cell? w _ Am)).trans Am; replace Ci := eq_true Ci; replace Cj := eq_true Cj; have Ck : 0 ≤ (Ae : Int) := of_decide_eq_true Z3; have Cl : Ae < (Af.length : Int) := of_decide_eq_true Z3; obtain ⟨ad163, e163, An⟩ := Kd.at_int Bq.out Ae Ck Cl; have hw163_0 := An; obtain rfl : ad162 = ad163 := (by injection e163); replace An := (HB.out.cell (World.block_lt_of_cell? w _ An)).trans An; replace Ck := eq_true Ck; replace Cl := eq_true Cl; refine start_ (n := 24) (S := fun w' => w'.cell? ⟨Aq, 0, none⟩ = some (.int .i64 Ao) ∧ w'.cell? ⟨Aq, 1, none⟩ = some (.int .i64 Ap) ∧ w'.cell? ⟨Aq, 2, none⟩ = some (.slice (some ad162) Af.length Ba) ∧ w'.cell? (ad159.add (Aa).toNat) = some (.int .i64 (rd Ac Aa)) ∧ w'.cell? ⟨Au, ((rd Ac Aa)).toNat, none⟩ = some (.int .i64 (rd Ar (rd Ac Aa))) ∧ w'.cell? (ad159.add (Aa).toNat) = some (.int .i64 (rd Ac Aa)) ∧ w'.cell? (ad162.add ((rd Ac Aa)).toNat) = some (.int .i64 (rd Af (rd Ac Aa))) ∧ w'.cell? (ad162.add (Ae).toNat) = some (.int .i64 (rd Af Ae))) (ds := []) #[false, false, false, false, false, false, false, false, false, false, false, false, false, false, false, false, false, false, false, false, false, false, false, false] Z33 rfl rfl ⟨(blk_cell Ab.out 0).trans rfl, (blk_cell Ab.out 1).trans rfl, (blk_cell Ab.out 2).trans rfl, Aw, Aj, Bb, ((HB.out.cell (World.block_lt_of_cell? w _ hw162_0)).trans hw162_0), ((HB.out.cell (World.block_lt_of_cell? w _ hw163_0)).trans hw163_0)⟩ (fun hHeld => ?_); refine with_tabW spec_l12Areas.tab20 spec_l12Areas.bits20 (fun HT_ HW_ => ?_)
                         generalize wr.drew = Ex at Ad Al Ah Ab HB Aw Aj Bb Am An hHeld ⊢
                         refine puR 0 58 #[true, false, false, false, false, false, false, false, false, false, false, false, false, false, false, false, false, false, false, false, false, false, false, false] HT_ rfl rfl ?_; refine puR 1 59 #[true, true, false, false, false, false, false, false, false, false, false, false, false, false, false, false, false, false, false, false, false, false, false, false] HT_ rfl rfl ?_; refine puR 2 60 #[true, true, true, false, false, false, false, false, false, false, false, false, false, false, false, false, false, false, false, false, false, false, false, false] HT_ rfl rfl ?_; refine puR 3 61 #[true, true, true, true, false, false, false, false, false, false, false, false, false, false, false, false, false, false, false, false, false, false, false, false] HT_ rfl rfl ?_; refine taR 4 62 #[true, true, true, true, true, false, false, false, false, false, false, false, false, false, false, false, false, false, false, false, false, false, false, false] HT_ HW_ hHeld rfl rfl ?_; refine puR 5 63 #[true, true, true, true, true, true, false, false, false, false, false, false, false, false, false, false, false, false, false, false, false, false, false, false] HT_ rfl rfl ?_; refine taR 6 64 #[true, true, true, true, true, true, true, false, false, false, false, false, false, false, false, false, false, false, false, false, false, false, false, false] HT_ HW_ hHeld rfl rfl ?_; refine puR 7 65 #[true, true, true, true, true, true, true, true, false, false, false, false, false, false, false, false, false, false, false, false, false, false, false, false] HT_ rfl rfl ?_; refine puR 8 66 #[true, true, true, true, true, true, true, true, true, false, false, false, false, false, false, false, false, false, false, false, false, false, false, false] HT_ rfl rfl ?_; refine puR 9 67 #[true, true, true, true, true, true, true, true, true, true, false, false, false, false, false, false, false, false, false, false, false, false, false, false] HT_ rfl rfl ?_; refine puR 11 69 #[true, true, true, true, true, true, true, true, true, true, false, true, false, false, false, false, false, false, false, false, false, false, false, false] HT_ rfl rfl ?_; refine puR 12 70 #[true, true, true, true, true, true, true, true, true, true, false, true, true, false, false, false, false, false, false, false, false, false, false, false] HT_ rfl rfl ?_; refine puR 13 71 #[true, true, true, true, true, true, true, true, true, true, false, true, true, true, false, false, false, false, false, false, false, false, false, false] HT_ rfl rfl ?_; refine puR 17 75 #[true, true, true, true, true, true, true, true, true, true, false, true, true, true, false, false, false, true, false, false, false, false, false, false] HT_ rfl rfl ?_; refine puR 19 77 #[true, true, true, true, true, true, true, true, true, true, false, true, true, true, false, false, false, true, false, true, false, false, false, false] HT_ rfl rfl ?_; refine taR 10 68 #[true, true, true, true, true, true, true, true, true, true, true, true, true, true, false, false, false, true, false, true, false, false, false, false] HT_ HW_ hHeld rfl rfl ?_; refine taR 14 72 #[true, true, true, true, true, true, true, true, true, true, true, true, true, true, true, false, false, true, false, true, false, false, false, false] HT_ HW_ hHeld rfl rfl ?_; refine puR 15 73 #[true, true, true, true, true, true, true, true, true, true, true, true, true, true, true, true, false, true, false, true, false, false, false, false] HT_ rfl rfl ?_; refine taR 16 74 #[true, true, true, true, true, true, true, true, true, true, true, true, true, true, true, true, true, true, false, true, false, false, false, false] HT_ HW_ hHeld rfl rfl ?_; refine taR 18 76 #[true, true, true, true, true, true, true, true, true, true, true, true, true, true, true, true, true, true, true, true, false, false, false, false] HT_ HW_ hHeld rfl rfl ?_; refine puR 20 78 #[true, true, true, true, true, true, true, true, true, true, true, true, true, true, true, true, true, true, true, true, true, false, false, false] HT_ rfl rfl ?_; refine taR 21 79 #[true, true, true, true, true, true, true, true, true, true, true, true, true, true, true, true, true, true, true, true, true, true, false, false] HT_ HW_ hHeld rfl rfl ?_; refine puR 22 80 #[true, true, true, true, true, true, true, true, true, true, true, true, true, true, true, true, true, true, true, true, true, true, true, false] HT_ rfl rfl ?_; refine puR 23 81 #[true, true, true, true, true, true, true, true, true, true, true, true, true, true, true, true, true, true, true, true, true, true, true, true] HT_ rfl rfl ?_; refine done_ (done_of HT_.out Z33) ?_; have C6 : 0 ≤ (Aa : Int) := of_decide_eq_true Z3; have C7 : Aa < (Ac.length : Int) := of_decide_eq_true Z3; obtain ⟨ad164, e164, D7⟩ := Kd.at_int (Kd.R_reads' Ah.out).2.2 Aa C6 C7; obtain rfl : ad159 = ad164 := (by injection e164); replace C6 := eq_true C6; replace C7 := eq_true C7; have Ei : 0 ≤ ((rd Ac Aa) : Int) := of_decide_eq_true Z3; have Ej : ((rd Ac Aa) : Int) < ((Ar.length : Int) : Int) := of_decide_eq_true Z3; obtain ⟨Ek, El⟩ := Kd.R_celln 0 Ad.out ((rd Ac Aa) : Int) Ei Ej; replace Ei := eq_true Ei; replace Ej := eq_true Ej; obtain ⟨hy39_, hz39_⟩ := Kd.R_celln 0 Ad.out ((rd Ac Aa) : Int) (of_decide_eq_true Z3) (of_decide_eq_true Z3); have C8 := Kd.R_putg Ad.out ((rd Ac Aa) : Int) Ay
                         try go_wp2_with (first | ((with_reducible refine gate_store (t := 3) (p := 88) rfl ?_); refine store_event (t := 3) (p := 88) (v := ?vo_w40) (w1 := (Ex.setCell ⟨Au, ((rd Ac Aa) : Int).toNat, none⟩ (.int .i64 Ay))) ?hg ?ho ?hn ?hr ?_; (case ho => rfl); (case hg => rfl); (case hn => rfl); (case hr => first | (go_simp; done) | (go_simp; rfl)); intro Em hw; have hg : Ex.grownBy Em (some Au) := (by rw [hw]; exact C8.2); have hp_ : Kd.R (Kd.int .i64) 3 Em w.heap.size (fun k_ => nV k_ u8 ∧ some k_ ≠ (.slice (some ad159) Ac.length Cs : Value).ownBlock) (.slice (some ⟨Au, 0, none⟩) Ar.length Bc) Cr := (by rw [hw, Dv.out]; exact C8.1); clear C8; replace Al := aM (Kd.R_after (v := (.slice (some ⟨Au, 0, none⟩) Ar.length Bc)) (v1 := (.slice (some ⟨Au, 0, none⟩) Ar.length Bc)) (ok := (fun k_ => some k_ ≠ (.slice (some ad159) Ac.length Cs : Value).ownBlock)) Z108 hg (.inl rfl)); replace Ah := aM (Kd.R_after (v := (.slice (some ⟨Au, 0, none⟩) Ar.length Bc)) (v1 := (.slice (some ⟨Au, 0, none⟩) Ar.length Bc)) (ok := (fun k_ => nV k_ u8)) Z109 hg (.inl rfl)); replace Ab := aM (blk_grown (g := Aq) (o := .cells #[.int .i64 Ao, .int .i64 Ap, .slice (some ad162) Af.length Ba] 28 (0, 0)) Z9 hg (Kd.R_ne Ad.out Ab.out (by decide))); replace Ad := aM (hp_); replace HB := aM ((by rw [hw]; exact below_set (HB.out) Dq.out : Below w.heap.size w Em)); clear hg hw hp_; have C9 : 0 ≤ (Aa : Int) := of_decide_eq_true Z3; have Da : Aa < (Ac.length : Int) := of_decide_eq_true Z3; obtain ⟨ad166, e166, D8⟩ := Kd.at_int (Kd.R_reads' Ah.out).2.2 Aa C9 Da; obtain rfl : ad159 = ad166 := (by injection e166); replace C9 := eq_true C9; replace Da := eq_true Da) | ((with_reducible refine gate_builtin (b := .append) (xs := #[.tmp 89, .tmp 94]) rfl ?_); at_builtin; refine Kd.R_append (Kd.int .i64) (w0 := w) w.heap.size rfl (.tmp 89) (.tmp 94) 22 3 (.int .i64 0) 8 rfl Try.underlying22 info3 rfl (by decide) (by omega) u8 Bh (rd Ac Aa) [.int .i64 (rd Ac Aa)] (fun k_ => some k_ ≠ (.slice (some ⟨Au, 0, none⟩) Ar.length Bc : Value).ownBlock ∧ some k_ ≠ (.slice (some ad159) Ac.length Cs : Value).ownBlock) (fun _ => False) rfl rfl ?aP (fun _ hk => hk.elim) ?aF ?aO ?aB ?aS ?aL ?_; (case aP => exact rfl); (case aB => exact Z10); (case aF => exact (fun k_ hk => ⟨Kd.fresh' (Kd.R_lt Z18) k_ hk, Kd.fresh' (Kd.R_lt Z47) k_ hk⟩)); (case aO => exact Z108); (case aS => exact (below_size Z10)); (case aL => have := LMc36.out; omega); intro Fe Ft ho hb hg hat; rw [← Dx.out] at ho; replace Ad := aM (Kd.R_after (ok := (fun k_ => some k_ ≠ (.slice (some ad159) Ac.length Cs : Value).ownBlock)) (by (with_reducible repeat (first | apply Kd.R_alloc | apply Kd.R_drewN | apply Kd.R_drew)); exact Kd.R_mono Ad.out (fun _ hk => ⟨hk.2, hk.1⟩)) hg hat); replace Ah := aM (Kd.R_after (ok := (fun k_ => some k_ ≠ (.slice (some ⟨Au, 0, none⟩) Ar.length Bc : Value).ownBlock)) Z109 hg hat); replace Ab := aM (blk_grown (g := Aq) (o := .cells #[.int .i64 Ao, .int .i64 Ap, .slice (some ad162) Af.length Ba] 28 (0, 0)) Z9 hg (Kd.R_ne Al.out Ab.out (by decide))); replace HB := aM (hb); have Dy := aM (ho); clear Al; clear ho hb hg hat))
                         (try simp only [← Ai])
                         go_roundg k4
                         case measure => have := HK1.out; have := HK2.out; have := HK3.out; have := HK4.out; omega
                         case rel => exact ⟨(Cr), (Dw), (wrap64 (Aa + 1)), Z7, H', ⟨Z100⟩, ⟨by (try simp only [Ag]); (try simp only [Ai]); (with_reducible repeat (first | apply Kd.R_alloc | apply Kd.R_drewN | apply Kd.R_drew)); exact Kd.R_mono Ad.out (fun _ hk => ⟨hk.2, hk.1⟩)⟩, ⟨by (try simp only [Ag]); (try simp only [Ai]); (with_reducible repeat (first | apply Kd.R_alloc | apply Kd.R_drewN | apply Kd.R_drew)); exact Dy.out⟩, ⟨Z62⟩, ⟨Z46⟩, ⟨Z10⟩⟩
                        ·rw [if_neg D6] at H
                         exact absurd H (by simp)
                       ·rw [if_neg C5] at H
                        have c34b0 : ((rd Af (rd Ac Aa)) == (rd Af Ae)) = false := beq_eq_false_iff_ne.mpr C5; have c34b1 : ((rd Af (rd Ac Aa)) != (rd Af Ae)) = true := bne_iff_ne.mpr C5; have H' := Aside0.mk H; clear H; obtain ⟨Ff, Fg, En⟩ := Kd.R_slice Ah.out; subst En
                        try go_wp2
                        replace Ad := aM (Kd.R_drew Ad.out); replace Al := aM (Kd.R_drew Al.out); replace Ah := aM (Kd.R_drew Ah.out); replace Ab := aM (blk_drew Ab.out); replace HB := aM (below_drew1 HB.out); have Bi : 0 ≤ (Aa : Int) := of_decide_eq_true Z3; have Bj : Aa < (Ac.length : Int) := of_decide_eq_true Z3; obtain ⟨ad159, e159, Aw⟩ := Kd.at_int (Kd.R_reads' Ah.out).2.2 Aa Bi Bj; cases e159; replace Bi := eq_true Bi; replace Bj := eq_true Bj; have Bk : 0 ≤ ((rd Ac Aa) : Int) := of_decide_eq_true Z3; have Bl : (rd Ac Aa) < (Ar.length : Int) := of_decide_eq_true Z3; obtain ⟨ad160, e160, Aj⟩ := Kd.at_int (Kd.R_reads' Ad.out).2.2 (rd Ac Aa) Bk Bl; obtain rfl : (⟨Au, 0, none⟩ : Addr) = ad160 := (by injection e160)
                        (first | simp only [add_plain] at Aj | simp only [add_at] at Aj | simp only [Addr.add, Nat.zero_add] at Aj | skip)
                        replace Bk := eq_true Bk; replace Bl := eq_true Bl; have Cg : 0 ≤ (Aa : Int) := of_decide_eq_true Z3; have Ch : Aa < (Ac.length : Int) := of_decide_eq_true Z3; obtain ⟨ad161, e161, Bb⟩ := Kd.at_int (Kd.R_reads' Ah.out).2.2 Aa Cg Ch; obtain rfl : ad159 = ad161 := (by injection e161); replace Cg := eq_true Cg; replace Ch := eq_true Ch; have Ci : 0 ≤ ((rd Ac Aa) : Int) := of_decide_eq_true Z3; have Cj : (rd Ac Aa) < (Af.length : Int) := of_decide_eq_true Z3; obtain ⟨ad162, e162, Am⟩ := Kd.at_int Bq.out (rd Ac Aa) Ci Cj; have hw162_0 := Am; cases e162; replace Am := (HB.out.cell (World.block_lt_of_cell? w _ Am)).trans Am; replace Ci := eq_true Ci; replace Cj := eq_true Cj; have Ck : 0 ≤ (Ae : Int) := of_decide_eq_true Z3; have Cl : Ae < (Af.length : Int) := of_decide_eq_true Z3; obtain ⟨ad163, e163, An⟩ := Kd.at_int Bq.out Ae Ck Cl; have hw163_0 := An; obtain rfl : ad162 = ad163 := (by injection e163); replace An := (HB.out.cell (World.block_lt_of_cell? w _ An)).trans An; replace Ck := eq_true Ck; replace Cl := eq_true Cl; refine start_ (n := 24) (S := fun w' => w'.cell? ⟨Aq, 0, none⟩ = some (.int .i64 Ao) ∧ w'.cell? ⟨Aq, 1, none⟩ = some (.int .i64 Ap) ∧ w'.cell? ⟨Aq, 2, none⟩ = some (.slice (some ad162) Af.length Ba) ∧ w'.cell? (ad159.add (Aa).toNat) = some (.int .i64 (rd Ac Aa)) ∧ w'.cell? ⟨Au, ((rd Ac Aa)).toNat, none⟩ = some (.int .i64 (rd Ar (rd Ac Aa))) ∧ w'.cell? (ad159.add (Aa).toNat) = some (.int .i64 (rd Ac Aa)) ∧ w'.cell? (ad162.add ((rd Ac Aa)).toNat) = some (.int .i64 (rd Af (rd Ac Aa))) ∧ w'.cell? (ad162.add (Ae).toNat) = some (.int .i64 (rd Af Ae))) (ds := []) #[false, false, false, false, false, false, false, false, false, false, false, false, false, false, false, false, false, false, false, false, false, false, false, false] Z33 rfl rfl ⟨(blk_cell Ab.out 0).trans rfl, (blk_cell Ab.out 1).trans rfl, (blk_cell Ab.out 2).trans rfl, Aw, Aj, Bb, ((HB.out.cell (World.block_lt_of_cell? w _ hw162_0)).trans hw162_0), ((HB.out.cell (World.block_lt_of_cell? w _ hw163_0)).trans hw163_0)⟩ (fun hHeld => ?_); refine with_tabW spec_l12Areas.tab20 spec_l12Areas.bits20 (fun HT_ HW_ => ?_)
                        generalize wr.drew = Fu at Ad Al Ah Ab HB Aw Aj Bb Am An hHeld ⊢
                        refine puR 0 58 #[true, false, false, false, false, false, false, false, false, false, false, false, false, false, false, false, false, false, false, false, false, false, false, false] HT_ rfl rfl ?_; refine puR 1 59 #[true, true, false, false, false, false, false, false, false, false, false, false, false, false, false, false, false, false, false, false, false, false, false, false] HT_ rfl rfl ?_; refine puR 2 60 #[true, true, true, false, false, false, false, false, false, false, false, false, false, false, false, false, false, false, false, false, false, false, false, false] HT_ rfl rfl ?_; refine puR 3 61 #[true, true, true, true, false, false, false, false, false, false, false, false, false, false, false, false, false, false, false, false, false, false, false, false] HT_ rfl rfl ?_; refine taR 4 62 #[true, true, true, true, true, false, false, false, false, false, false, false, false, false, false, false, false, false, false, false, false, false, false, false] HT_ HW_ hHeld rfl rfl ?_; refine puR 5 63 #[true, true, true, true, true, true, false, false, false, false, false, false, false, false, false, false, false, false, false, false, false, false, false, false] HT_ rfl rfl ?_; refine taR 6 64 #[true, true, true, true, true, true, true, false, false, false, false, false, false, false, false, false, false, false, false, false, false, false, false, false] HT_ HW_ hHeld rfl rfl ?_; refine puR 7 65 #[true, true, true, true, true, true, true, true, false, false, false, false, false, false, false, false, false, false, false, false, false, false, false, false] HT_ rfl rfl ?_; refine puR 8 66 #[true, true, true, true, true, true, true, true, true, false, false, false, false, false, false, false, false, false, false, false, false, false, false, false] HT_ rfl rfl ?_; refine puR 9 67 #[true, true, true, true, true, true, true, true, true, true, false, false, false, false, false, false, false, false, false, false, false, false, false, false] HT_ rfl rfl ?_; refine puR 11 69 #[true, true, true, true, true, true, true, true, true, true, false, true, false, false, false, false, false, false, false, false, false, false, false, false] HT_ rfl rfl ?_; refine puR 12 70 #[true, true, true, true, true, true, true, true, true, true, false, true, true, false, false, false, false, false, false, false, false, false, false, false] HT_ rfl rfl ?_; refine puR 13 71 #[true, true, true, true, true, true, true, true, true, true, false, true, true, true, false, false, false, false, false, false, false, false, false, false] HT_ rfl rfl ?_; refine puR 17 75 #[true, true, true, true, true, true, true, true, true, true, false, true, true, true, false, false, false, true, false, false, false, false, false, false] HT_ rfl rfl ?_; refine puR 19 77 #[true, true, true, true, true, true, true, true, true, true, false, true, true, true, false, false, false, true, false, true, false, false, false, false] HT_ rfl rfl ?_; refine taR 10 68 #[true, true, true, true, true, true, true, true, true, true, true, true, true, true, false, false, false, true, false, true, false, false, false, false] HT_ HW_ hHeld rfl rfl ?_; refine taR 14 72 #[true, true, true, true, true, true, true, true, true, true, true, true, true, true, true, false, false, true, false, true, false, false, false, false] HT_ HW_ hHeld rfl rfl ?_; refine puR 15 73 #[true, true, true, true, true, true, true, true, true, true, true, true, true, true, true, true, false, true, false, true, false, false, false, false] HT_ rfl rfl ?_; refine taR 16 74 #[true, true, true, true, true, true, true, true, true, true, true, true, true, true, true, true, true, true, false, true, false, false, false, false] HT_ HW_ hHeld rfl rfl ?_; refine taR 18 76 #[true, true, true, true, true, true, true, true, true, true, true, true, true, true, true, true, true, true, true, true, false, false, false, false] HT_ HW_ hHeld rfl rfl ?_; refine puR 20 78 #[true, true, true, true, true, true, true, true, true, true, true, true, true, true, true, true, true, true, true, true, true, false, false, false] HT_ rfl rfl ?_; refine taR 21 79 #[true, true, true, true, true, true, true, true, true, true, true, true, true, true, true, true, true, true, true, true, true, true, false, false] HT_ HW_ hHeld rfl rfl ?_; refine puR 22 80 #[true, true, true, true, true, true, true, true, true, true, true, true, true, true, true, true, true, true, true, true, true, true, true, false] HT_ rfl rfl ?_; refine puR 23 81 #[true, true, true, true, true, true, true, true, true, true, true, true, true, true, true, true, true, true, true, true, true, true, true, true] HT_ rfl rfl ?_; refine done_ (done_of HT_.out Z33) ?_
                        try go_wp2
                        (try simp only [← Ai])
                        go_roundg k4
                        case measure => have := HK1.out; have := HK2.out; have := HK3.out; have := HK4.out; omega
                        case rel => exact ⟨(Ar), (Bh), (wrap64 (Aa + 1)), Z7, H', ⟨Z100⟩, ⟨Z101⟩, ⟨Z102⟩, ⟨Z62⟩, ⟨Z46⟩, ⟨Z10⟩⟩
                      ·rw [if_neg D5] at H
                       exact absurd H (by simp)
                     ·rw [if_neg D4] at H
                      exact absurd H (by simp)
                    ·rw [if_neg D3] at H
                     exact absurd H (by simp)
                   ·rw [if_neg Dd] at H
                    have c30b0 : decide ((rd Ar (rd Ac Aa)) < 0) = false := decide_eq_false Dd; clear Dd; have H' := Aside0.mk H; clear H; obtain ⟨Fh, Fi, Eo⟩ := Kd.R_slice Ah.out; subst Eo
                    try go_wp2
                    replace Ad := aM (Kd.R_drew Ad.out); replace Al := aM (Kd.R_drew Al.out); replace Ah := aM (Kd.R_drew Ah.out); replace Ab := aM (blk_drew Ab.out); replace HB := aM (below_drew1 HB.out); have Bi : 0 ≤ (Aa : Int) := of_decide_eq_true Z3; have Bj : Aa < (Ac.length : Int) := of_decide_eq_true Z3; obtain ⟨ad159, e159, Aw⟩ := Kd.at_int (Kd.R_reads' Ah.out).2.2 Aa Bi Bj; cases e159; replace Bi := eq_true Bi; replace Bj := eq_true Bj; have Bk : 0 ≤ ((rd Ac Aa) : Int) := of_decide_eq_true Z3; have Bl : (rd Ac Aa) < (Ar.length : Int) := of_decide_eq_true Z3; obtain ⟨ad160, e160, Aj⟩ := Kd.at_int (Kd.R_reads' Ad.out).2.2 (rd Ac Aa) Bk Bl; obtain rfl : (⟨Au, 0, none⟩ : Addr) = ad160 := (by injection e160)
                    (first | simp only [add_plain] at Aj | simp only [add_at] at Aj | simp only [Addr.add, Nat.zero_add] at Aj | skip)
                    replace Bk := eq_true Bk; replace Bl := eq_true Bl; refine start_ (n := 24) (S := fun w' => w'.cell? (ad159.add (Aa).toNat) = some (.int .i64 (rd Ac Aa)) ∧ w'.cell? ⟨Au, ((rd Ac Aa)).toNat, none⟩ = some (.int .i64 (rd Ar (rd Ac Aa)))) (ds := []) #[false, false, false, false, false, false, false, false, false, false, false, false, false, false, false, false, false, false, false, false, false, false, false, false] Z33 rfl rfl ⟨Aw, Aj⟩ (fun hHeld => ?_); refine with_tabW spec_l12Areas.tab20 spec_l12Areas.bits20 (fun HT_ HW_ => ?_)
                    generalize wr.drew = Fv at Ad Al Ah Ab HB Aw Aj hHeld ⊢
                    refine puR 0 58 #[true, false, false, false, false, false, false, false, false, false, false, false, false, false, false, false, false, false, false, false, false, false, false, false] HT_ rfl rfl ?_; refine puR 1 59 #[true, true, false, false, false, false, false, false, false, false, false, false, false, false, false, false, false, false, false, false, false, false, false, false] HT_ rfl rfl ?_; refine puR 2 60 #[true, true, true, false, false, false, false, false, false, false, false, false, false, false, false, false, false, false, false, false, false, false, false, false] HT_ rfl rfl ?_; refine puR 3 61 #[true, true, true, true, false, false, false, false, false, false, false, false, false, false, false, false, false, false, false, false, false, false, false, false] HT_ rfl rfl ?_; refine taR 4 62 #[true, true, true, true, true, false, false, false, false, false, false, false, false, false, false, false, false, false, false, false, false, false, false, false] HT_ HW_ hHeld rfl rfl ?_; refine puR 5 63 #[true, true, true, true, true, true, false, false, false, false, false, false, false, false, false, false, false, false, false, false, false, false, false, false] HT_ rfl rfl ?_; refine taR 6 64 #[true, true, true, true, true, true, true, false, false, false, false, false, false, false, false, false, false, false, false, false, false, false, false, false] HT_ HW_ hHeld rfl rfl ?_; refine puR 7 65 #[true, true, true, true, true, true, true, true, false, false, false, false, false, false, false, false, false, false, false, false, false, false, false, false] HT_ rfl rfl ?_; refine puR 8 66 #[true, true, true, true, true, true, true, true, true, false, false, false, false, false, false, false, false, false, false, false, false, false, false, false] HT_ rfl rfl ?_; refine pure_ (i := 9) (N := some 67) (v := undef) (a' := ?_) #[true, true, true, true, true, true, true, true, true, true, false, false, false, false, false, false, false, false, false, false, false, false, false, false] rfl rfl (any_of HT_.out Z33) (fun _ _ _ h => h) (Or.inr ⟨by rfl, rfl⟩) ?_ ?_
                    rotate_left
                    ·exact Z16
                    refine pure_ (i := 10) (N := some 68) (v := undef) (a' := ?_) #[true, true, true, true, true, true, true, true, true, true, true, false, false, false, false, false, false, false, false, false, false, false, false, false] rfl rfl (any_of HT_.out Z33) (fun _ _ _ h => h) (Or.inr ⟨by rfl, rfl⟩) ?_ ?_
                    rotate_left
                    ·exact Z16
                    refine pure_ (i := 11) (N := some 69) (v := undef) (a' := ?_) #[true, true, true, true, true, true, true, true, true, true, true, true, false, false, false, false, false, false, false, false, false, false, false, false] rfl rfl (any_of HT_.out Z33) (fun _ _ _ h => h) (Or.inr ⟨by rfl, rfl⟩) ?_ ?_
                    rotate_left
                    ·exact Z16
                    refine pure_ (i := 12) (N := some 70) (v := undef) (a' := ?_) #[true, true, true, true, true, true, true, true, true, true, true, true, true, false, false, false, false, false, false, false, false, false, false, false] rfl rfl (any_of HT_.out Z33) (fun _ _ _ h => h) (Or.inr ⟨by rfl, rfl⟩) ?_ ?_
                    rotate_left
                    ·exact Z16
                    refine pure_ (i := 13) (N := some 71) (v := undef) (a' := ?_) #[true, true, true, true, true, true, true, true, true, true, true, true, true, true, false, false, false, false, false, false, false, false, false, false] rfl rfl (any_of HT_.out Z33) (fun _ _ _ h => h) (Or.inr ⟨by rfl, rfl⟩) ?_ ?_
                    rotate_left
                    ·exact Z16
                    refine pure_ (i := 14) (N := some 72) (v := undef) (a' := ?_) #[true, true, true, true, true, true, true, true, true, true, true, true, true, true, true, false, false, false, false, false, false, false, false, false] rfl rfl (any_of HT_.out Z33) (fun _ _ _ h => h) (Or.inr ⟨by rfl, rfl⟩) ?_ ?_
                    rotate_left
                    ·exact Z16
                    refine pure_ (i := 15) (N := some 73) (v := undef) (a' := ?_) #[true, true, true, true, true, true, true, true, true, true, true, true, true, true, true, true, false, false, false, false, false, false, false, false] rfl rfl (any_of HT_.out Z33) (fun _ _ _ h => h) (Or.inr ⟨by rfl, rfl⟩) ?_ ?_
                    rotate_left
                    ·exact Z16
                    refine pure_ (i := 16) (N := some 74) (v := undef) (a' := ?_) #[true, true, true, true, true, true, true, true, true, true, true, true, true, true, true, true, true, false, false, false, false, false, false, false] rfl rfl (any_of HT_.out Z33) (fun _ _ _ h => h) (Or.inr ⟨by rfl, rfl⟩) ?_ ?_
                    rotate_left
                    ·exact Z16
                    refine pure_ (i := 17) (N := some 75) (v := undef) (a' := ?_) #[true, true, true, true, true, true, true, true, true, true, true, true, true, true, true, true, true, true, false, false, false, false, false, false] rfl rfl (any_of HT_.out Z33) (fun _ _ _ h => h) (Or.inr ⟨by rfl, rfl⟩) ?_ ?_
                    rotate_left
                    ·exact Z16
                    refine pure_ (i := 18) (N := some 76) (v := undef) (a' := ?_) #[true, true, true, true, true, true, true, true, true, true, true, true, true, true, true, true, true, true, true, false, false, false, false, false] rfl rfl (any_of HT_.out Z33) (fun _ _ _ h => h) (Or.inr ⟨by rfl, rfl⟩) ?_ ?_
                    rotate_left
                    ·exact Z16
                    refine pure_ (i := 19) (N := some 77) (v := undef) (a' := ?_) #[true, true, true, true, true, true, true, true, true, true, true, true, true, true, true, true, true, true, true, true, false, false, false, false] rfl rfl (any_of HT_.out Z33) (fun _ _ _ h => h) (Or.inr ⟨by rfl, rfl⟩) ?_ ?_
                    rotate_left
                    ·exact Z16
                    refine pure_ (i := 20) (N := some 78) (v := undef) (a' := ?_) #[true, true, true, true, true, true, true, true, true, true, true, true, true, true, true, true, true, true, true, true, true, false, false, false] rfl rfl (any_of HT_.out Z33) (fun _ _ _ h => h) (Or.inr ⟨by rfl, rfl⟩) ?_ ?_
                    rotate_left
                    ·exact Z16
                    refine pure_ (i := 21) (N := some 79) (v := undef) (a' := ?_) #[true, true, true, true, true, true, true, true, true, true, true, true, true, true, true, true, true, true, true, true, true, true, false, false] rfl rfl (any_of HT_.out Z33) (fun _ _ _ h => h) (Or.inr ⟨by rfl, rfl⟩) ?_ ?_
                    rotate_left
                    ·exact Z16
                    refine pure_ (i := 22) (N := some 80) (v := undef) (a' := ?_) #[true, true, true, true, true, true, true, true, true, true, true, true, true, true, true, true, true, true, true, true, true, true, true, false] rfl rfl (any_of HT_.out Z33) (fun _ _ _ h => h) (Or.inr ⟨by rfl, rfl⟩) ?_ ?_
                    rotate_left
                    ·exact Z16
                    refine puR 23 81 #[true, true, true, true, true, true, true, true, true, true, true, true, true, true, true, true, true, true, true, true, true, true, true, true] HT_ rfl rfl ?_; refine done_ (done_of HT_.out Z33) ?_
                    try go_wp2
                    (try simp only [← Ai])
                    go_roundg k4
                    case measure => have := HK1.out; have := HK2.out; have := HK3.out; have := HK4.out; omega
                    case rel => exact ⟨(Ar), (Bh), (wrap64 (Aa + 1)), Z7, H', ⟨Z100⟩, ⟨Z101⟩, ⟨Z102⟩, ⟨Z62⟩, ⟨Z46⟩, ⟨Z10⟩⟩
                  ·rw [if_neg D2] at H
                   exact absurd H (by simp)
                 ·rw [if_neg D1] at H
                  exact absurd H (by simp)
                ·rw [if_neg D0] at H
                 exact absurd H (by simp)
               ·rw [if_neg Dc] at H
                have c26b0 : decide (Aa < (Ac.length : Int)) = false := decide_eq_false Dc
                (try simp only [Ag, Ai] at c26b0)
                clear Dc; have H' := Aside0.mk H; clear H; obtain ⟨Fj, Fk, Ep⟩ := Kd.R_slice Ah.out; subst Ep
                go_wp2
                (try simp only [← Ag, ← Ai])
                go_roundg k4
                case measure => have := HK1.out; have := HK2.out; have := HK3.out; have := HK4.out; omega
                case rel => exact ⟨(Ar), (Bh), (wrap64 (Ax + 1)), Z7, H', ⟨Z100⟩, ⟨by (try simp only [Ag]); (try simp only [Ai]); (with_reducible repeat (first | apply Kd.R_alloc | apply Kd.R_drewN | apply Kd.R_drew)); exact Kd.R_mono Ad.out (fun _ hk => hk.1)⟩, ⟨by (try simp only [Ag]); (try simp only [Ai]); (with_reducible repeat (first | apply Kd.R_alloc | apply Kd.R_drewN | apply Kd.R_drew)); exact Kd.R_mono Al.out (fun _ hk => hk.1)⟩, ⟨Z46⟩, ⟨Z10⟩⟩
            ·rw [if_neg Ds] at H
             exact absurd H (by simp)
           ·rw [if_neg C3] at H
            have c20b0 : decide (Ax < (Bd.length : Int)) = false := decide_eq_false C3
            (try simp only [Ag] at c20b0)
            clear C3; have H' := Aside0.mk H; clear H; obtain ⟨Fl, Fm, Er⟩ := Kd.R_slice Al.out; subst Er
            go_wp2
            (try simp only [← Ag])
            go_roundg k3
            case measure => have := HK1.out; have := HK2.out; have := HK3.out; omega
            case rel => exact ⟨(Bo), (wrap64 (Ay + 1)), (wrap64 (Ae + 1)), Z7, Z7, H', ⟨Z104⟩, ⟨by (try simp only [Ag]); (with_reducible repeat (first | apply Kd.R_alloc | apply Kd.R_drewN | apply Kd.R_drew)); exact Kd.R_mono Ad.out (fun _ hk => trivial)⟩, ⟨Z115⟩, ⟨Z10⟩⟩
       ·rw [if_neg Db] at H
        exact absurd H (by simp)
      ·rw [if_neg Cw] at H
       have c10b0 : decide (Ae < (Az.length : Int)) = false := decide_eq_false Cw; clear Cw
       simp only [Option.some.injEq, Prod.mk.injEq] at H
       obtain ⟨rfl, rfl⟩ := H; obtain ⟨Fo, Fp, Es⟩ := Kd.R_slice Ad.out; subst Es
       go_wp2
       go_ret2
       exact ⟨_, Z6, Z18, Z10⟩
end Go.Proofs.Ytaadbpibmlnncaa.H
