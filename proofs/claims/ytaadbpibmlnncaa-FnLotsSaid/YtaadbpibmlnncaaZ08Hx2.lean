-- by wip/pack.py of this repo
import Derived.Test.YtaadbpibmlnncaaZ08Hx0
import Derived.Test.YtaadbpibmlnncaaZ08Hx1
import Derived.Test.YtaadbpibmlnncaaZ08WLast
import Derived.Test.YtaadbpibmlnncaaZ08WMore
import Derived.Test.YtaadbpibmlnncaaZ08WRepsOne
import Derived.Test.YtaadbpibmlnncaaZ08WTab
import Derived.Test.YtaadbpibmlnncaaZ08WWords
import Derived.Test.YtaadbpibmlnncaaZ08Short
namespace Go.Proofs.Ytaadbpibmlnncaa.H
open Go.RowKit Go.Proofs.YtaadbpibmlnncaaW.PrintWords Go.Proofs.YtaadbpibmlnncaaW.PrintLast Go.Proofs.YtaadbpibmlnncaaW.PrintMore
attribute [local go_sem] max2_int min2_int max_two min_two max_three min_three max_four min_four
set_option maxHeartbeats 8000000
set_option maxRecDepth 100000
set_option linter.unusedVariables false
set_option linter.unusedSimpArgs false
mutual
def spec_l12Areas.l0 : Nat → List Int → Int → Int → Int → List Int → Option (List Int × Int)
 | 0, _, _, _, _, _ => none
 | k + 1, x4, x5, x128000, x128001, x128002 => if x5 < (x128002.length : Int) then (if x4.length < 17592186044416 then (spec_l12Areas.l0 k (x4 ++ [(-1)]) (wrap64 (x5 + 1)) x128000 x128001 x128002) else (none)) else (spec_l12Areas.l1 k x4 0 0 x128000 x128001 x128002)
def spec_l12Areas.l1 : Nat → List Int → Int → Int → Int → Int → List Int → Option (List Int × Int)
 | 0, _, _, _, _, _, _ => none
 | k + 1, x4, x6, x7, x128000, x128001, x128002 => if x7 < (x4.length : Int) then (if 0 ≤ x7 then (if (rd x4 x7) ≥ 0 then (spec_l12Areas.l1 k x4 x6 (wrap64 (x7 + 1)) x128000 x128001 x128002) else (spec_l12Areas.l2 k (x4.set (x7 : Int).toNat x6) x6 x7 (([x7] : List Int)) 0 x128000 x128001 x128002)) else (none)) else (some (x4, x6))
def spec_l12Areas.l2 : Nat → List Int → Int → Int → List Int → Int → Int → Int → List Int → Option (List Int × Int)
 | 0, _, _, _, _, _, _, _, _ => none
 | k + 1, x4, x6, x7, x8, x9, x128000, x128001, x128002 => if x9 < (x8.length : Int) then (if 0 ≤ x9 then ((spec_l12Next.f k x128000 x128001 x128002 (rd x8 x9)).bind fun t140 => (spec_l12Areas.l3 k x4 x6 x7 x8 x9 t140 0 x128000 x128001 x128002)) else (none)) else (spec_l12Areas.l1 k x4 (wrap64 (x6 + 1)) (wrap64 (x7 + 1)) x128000 x128001 x128002)
def spec_l12Areas.l3 : Nat → List Int → Int → Int → List Int → Int → List Int → Int → Int → Int → List Int → Option (List Int × Int)
 | 0, _, _, _, _, _, _, _, _, _, _ => none
 | k + 1, x4, x6, x7, x8, x9, x10, x11, x128000, x128001, x128002 => if x11 < (x10.length : Int) then (if 0 ≤ x11 then (if 0 ≤ (rd x10 x11) then (if (rd x10 x11) < (x4.length : Int) then (if (rd x4 (rd x10 x11)) < 0 then (if (rd x10 x11) < (x128002.length : Int) then (if 0 ≤ x7 then (if x7 < (x128002.length : Int) then (if (rd x128002 (rd x10 x11)) = (rd x128002 x7) then (if x8.length < 17592186044416 then (spec_l12Areas.l3 k (x4.set ((rd x10 x11) : Int).toNat x6) x6 x7 (x8 ++ [rd x10 x11]) x9 x10 (wrap64 (x11 + 1)) x128000 x128001 x128002) else (none)) else (spec_l12Areas.l3 k x4 x6 x7 x8 x9 x10 (wrap64 (x11 + 1)) x128000 x128001 x128002)) else (none)) else (none)) else (none)) else (spec_l12Areas.l3 k x4 x6 x7 x8 x9 x10 (wrap64 (x11 + 1)) x128000 x128001 x128002)) else (none)) else (none)) else (none)) else (spec_l12Areas.l2 k x4 x6 x7 x8 (wrap64 (x9 + 1)) x128000 x128001 x128002)
end
def spec_l12Areas.f (k : Nat) (a0_0 : Int) (a0_1 : Int) (l0_2 : List Int) : Option (List Int × Int) := spec_l12Areas.l0 k (([] : List Int)) 0 a0_0 a0_1 l0_2
def spec_l12Areas.T20 : Bool × List (List Nat × List Nat) := (true, [([], []), ([], []), ([], []), ([1, 2], [1, 2]), ([3], [3]), ([0, 4], [0, 4]), ([5], [5]), ([6], [6]), ([7], [7]), ([8], [8]), ([9, 8], [8, 9]), ([8], [8]), ([8], [8]), ([11, 12, 8], [8, 11, 12]), ([13, 8], [8, 13]), ([10, 14, 8], [8, 10, 14]), ([15, 8], [8, 15]), ([8], [8]), ([17, 8], [8, 17]), ([8], [8]), ([18, 19, 8], [8, 18, 19]), ([20, 8], [8, 20]), ([16, 21, 8], [8, 16, 21]), ([8, 22], [8, 22])])
def spec_l12Areas.B20 : List Nat := [0, 0, 0, 6, 14, 31, 63, 127, 255, 511, 1023, 511, 511, 6655, 14847, 32767, 65535, 511, 131583, 511, 918015, 1966591, 4194303, 8388607]
theorem spec_l12Areas.tab20 : rtab .any (opsOf Try.f44 20) = spec_l12Areas.T20 := by kernel_rfl
theorem spec_l12Areas.bits20 : waitsOk spec_l12Areas.T20.2 spec_l12Areas.B20 = true := by kernel_rfl
theorem spec_l12Areas.calls (k : Nat) (Ao : Int) (Ap : Int) (Bg : Option Addr) (Ba : Nat) (Af : List Int) (r1 : List Int) (r2 : Int) (w : World) (Cu : Kd.C (Kd.int .i64) w Bg Af.length Af) (Cv : Af.length ≤ Ba) (h : spec_l12Areas.f k Ao Ap Af = some (r1, r2)) :
  Calls Try.prog 44 #[.agg #[.int .i64 Ao, .int .i64 Ap, .slice Bg Af.length Ba]] w fun e w' => ∃ v0_ : Value, e = .returned (.tuple #[v0_, .int .i64 r2]) ∧ Kd.R (Kd.int .i64) 3 w' w.heap.size (fun _ => True) v0_ r1 ∧ Below w.heap.size w w' := by
 have hu28 := Try.underlying28; have Bq := Aside0.mk Cu; have Df := Aside0.mk Cv; clear Cu Cv; have HB := aM (Below.refl w.heap.size w); have H : (spec_l12Areas.l0 k (([] : List Int)) 0 Ao Ap Af) = some (r1, r2) := h; clear h; obtain ⟨Dg, Br⟩ : ∃ y_ : List Int, y_ = (([] : List Int)) := ⟨_, rfl⟩
 replace H : (spec_l12Areas.l0 k Dg 0 Ao Ap Af) = some (r1, r2) := by first | (rw [Br]; with_reducible exact H) | (have H2_ := (Option.bind_some _ _).symm.trans H; rw [Br]; with_reducible exact H2_) | (have H2_ := (Option.bind_some _ _).symm.trans H; with_reducible exact H2_) | with_reducible exact H | (rw [Br]; exact H) | exact H
 have Cw := Aside0.mk Br; clear Br; have H' := Aside0.mk H; clear H
 go_enter Try.func44, Try.ntmps44
 go_wp2_with (first | ((with_reducible refine gate_dst (N := 1) rfl ?_); refine bxE 1 #[.int .i64 Ao, .int .i64 Ap, .slice Bg Af.length Ba] 28 ?_; intro Aq hg w2 hbox hb; have Ab := aM (hbox); have Eu := gwS hg Z0; have Ak := gwS hg Z0; replace HB := hbS Z0 hb; clear hb hbox hg) | ((with_reducible refine gate_dst (N := 12) rfl ?_); refine Kd.R_lit (Kd.int .i64) _ 3 ?hg (N := 12) ?hd (xs := ([] : List Int)) (inner := []) (ok := fun _ => True) (okp := fun _ => True) ?hr ?hp (fun _ hk => hk) trivial (Below.refl _ _) (Nat.le_refl _) (by simp) ?_; (case hd => rfl); (case hg => rfl); (case hr => first | (go_simp; done) | (go_simp; rfl)); (case hp => exact (Reps.none _ _)); intro Ez w3 Dh hb hg_ hnew_; clear hg_ hnew_; (first | rw [← Cw.out] at Dh | (simp only [Int.reduceToNat] at Dh; rw [← Cw.out] at Dh)); have Di := aM (Kd.R_lower Dh (below_size Z34)); replace Ab := bkB Ab hb; replace HB := hbS Z34 hb; clear hb Dh))
 go_loopg [4, 5] k (fun kq v4 v5 w' => ∃ (Bz : List Int) (Bs : Int), v5 = .int .i64 Bs ∧ Aside0 (spec_l12Areas.l0 kq Bz Bs Ao Ap Af = some (r1, r2)) ∧ Aside0 (kq ≤ k) ∧ Aside0 (Kd.R (Kd.int .i64) 3 w' w.heap.size (fun _ => True) v4 Bz) ∧ Aside0 (w'.heap[Aq]? = some (.cells #[.int .i64 Ao, .int .i64 Ap, (.slice Bg Af.length Ba)] 28 (0, 0))) ∧ Aside0 (Below w.heap.size w w'))
 case atStart => exact ⟨(Dg), (0), Z14, H', ⟨Nat.le_refl _⟩, ⟨by (with_reducible repeat (first | apply Kd.R_alloc | apply Kd.R_drewN | apply Kd.R_drew)); exact Di.out⟩, ⟨Z12⟩, ⟨Z34⟩⟩
 case round =>
  clear H'; (try clear p2); (try clear c4); obtain ⟨Bz, Bs, rfl, HA, HK1, Ad, Ab, HB⟩ := hrel; cases gk with
  | zero => exact absurd HA.out (by simp [spec_l12Areas.l0])
  | succ k1 =>
   have H := HA.out; clear HA
   simp only [spec_l12Areas.l0] at H
   by_cases c5 : Bs < (Af.length : Int)
   ·rw [if_pos c5] at H
    have c5b0 : decide (Bs < (Af.length : Int)) = true := decide_eq_true c5; clear c5
    by_cases c6 : Bz.length < 17592186044416
    ·rw [if_pos c6] at H
     have LMc6 := Aside0.mk c6; clear c6; obtain ⟨Dj, Bt⟩ : ∃ y_ : List Int, y_ = (Bz ++ [(-1)]) := ⟨_, rfl⟩
     replace H : (spec_l12Areas.l0 k1 Dj (wrap64 (Bs + 1)) Ao Ap Af) = some (r1, r2) := by first | (rw [Bt]; with_reducible exact H) | (have H2_ := (Option.bind_some _ _).symm.trans H; rw [Bt]; with_reducible exact H2_) | (have H2_ := (Option.bind_some _ _).symm.trans H; with_reducible exact H2_) | with_reducible exact H | (rw [Bt]; exact H) | exact H
     have Dk := Aside0.mk Bt; clear Bt; have H' := Aside0.mk H; clear H; obtain ⟨B0, B2, B5⟩ := bz3 Ab; obtain ⟨B6, B7, Ca⟩ := fz3 Ab
     go_wp2_with (first | ((with_reducible refine gate_builtin (b := .append) (xs := #[.tmp 20, .tmp 21]) rfl ?_); at_builtin; refine Kd.R_append (Kd.int .i64) (w0 := w) w.heap.size rfl (.tmp 20) (.tmp 21) 22 3 (.int .i64 0) 8 rfl Try.underlying22 info3 rfl (by decide) (by omega) u4 Bz (-1) [.int .i64 (-1)] (fun _ => True) (fun _ => False) rfl rfl ?aP (fun _ hk => hk.elim) ?aF ?aO ?aB ?aS ?aL ?_; (case aP => exact rfl); (case aB => exact Z34); (case aF => exact (fun _ _ => trivial)); (case aO => exact Z35); (case aS => exact (below_size Z34)); (case aL => have := LMc6.out; omega); intro E0 w8 ho hb hg hat; rw [← Dk.out] at ho; replace Ab := aM (blk_grown (g := Aq) (o := .cells #[.int .i64 Ao, .int .i64 Ap, .slice Bg Af.length Ba] 28 (0, 0)) Z12 hg (Kd.R_ne Ad.out Ab.out (by decide))); replace HB := aM (hb); have Dl := aM (ho); clear Ad; clear ho hb hg hat))
     go_roundg k1
     case measure => have := HK1.out; omega
     case rel => exact ⟨(Dj), (wrap64 (Bs + 1)), Z14, H', ⟨Z118⟩, ⟨by (with_reducible repeat (first | apply Kd.R_alloc | apply Kd.R_drewN | apply Kd.R_drew)); exact Dl.out⟩, ⟨Z12⟩, ⟨Z34⟩⟩
    ·rw [if_neg c6] at H
     exact absurd H (by simp)
   ·rw [if_neg c5] at H
    have c5b0 : decide (Bs < (Af.length : Int)) = false := decide_eq_false c5; clear c5; have H' := Aside0.mk H; clear H; obtain ⟨Cb, Cc, Cd⟩ := bz3 Ab; obtain ⟨Ce, Cf, Cg⟩ := fz3 Ab
    go_wp2
    go_loopg [6, 7] k1 (fun kq v6 v7 w' => ∃ (Az : List Int) (Ay : Int) (Ae : Int), v6 = .int .i64 Ay ∧ v7 = .int .i64 Ae ∧ Aside0 (spec_l12Areas.l1 kq Az Ay Ae Ao Ap Af = some (r1, r2)) ∧ Aside0 (kq ≤ k1) ∧ Aside0 (Kd.R (Kd.int .i64) 3 w' w.heap.size (fun _ => True) u4 Az) ∧ Aside0 (w'.heap[Aq]? = some (.cells #[.int .i64 Ao, .int .i64 Ap, (.slice Bg Af.length Ba)] 28 (0, 0))) ∧ Aside0 (Below w.heap.size w w'))
    case atStart => exact ⟨(Bz), (0), (0), Z14, Z14, H', ⟨Nat.le_refl _⟩, ⟨Z35⟩, ⟨Z12⟩, ⟨Z34⟩⟩
    case round =>
     clear H'; (try clear p2); (try clear c4); (try clear c5); (try clear c5b0); (try clear c6); (try clear p6); (try clear B0); (try clear B2); (try clear B5); (try clear Cb); (try clear Cc); (try clear Cd); (try clear B6); (try clear B7); (try clear Ca); (try clear Ce); (try clear Cf); (try clear Cg); (try clear p2); obtain ⟨Az, Ay, Ae, rfl, rfl, HA, HK2, Ad, Ab, HB⟩ := hrel; cases gk with
     | zero => exact absurd HA.out (by simp [spec_l12Areas.l1])
     | succ k2 =>
      have H := HA.out; clear HA
      simp only [spec_l12Areas.l1] at H
      by_cases Cx : Ae < (Az.length : Int)
      ·rw [if_pos Cx] at H
       have c10b0 : decide (Ae < (Az.length : Int)) = true := decide_eq_true Cx; clear Cx
       by_cases Dc : 0 ≤ Ae
       ·rw [if_pos Dc] at H
        have c11b0 : decide (0 ≤ Ae) = true := decide_eq_true Dc; clear Dc
        by_cases Cy : (rd Az Ae) ≥ 0
        ·rw [if_pos Cy] at H
         have c12b0 : decide (0 ≤ (rd Az Ae)) = true := decide_eq_true Cy; clear Cy; have H' := Aside0.mk H; clear H; obtain ⟨E2, E3, Ea⟩ := Kd.R_slice Ad.out; subst Ea; have Bm : 0 ≤ (Ae : Int) := of_decide_eq_true Z3; have Bn : Ae < (Az.length : Int) := of_decide_eq_true Z3; obtain ⟨ad134, e134, Bf⟩ := Kd.at_int (Kd.R_reads' Ad.out).2.2 Ae Bm Bn; cases e134; replace Bm := eq_true Bm; replace Bn := eq_true Bn
         go_wp2
         go_roundg k2
         case measure => have := HK1.out; have := HK2.out; omega
         case rel => exact ⟨(Az), (Ay), (wrap64 (Ae + 1)), Z14, Z14, H', ⟨Z152⟩, ⟨Z35⟩, ⟨Z12⟩, ⟨Z34⟩⟩
        ·rw [if_neg Cy] at H
         have c12b0 : decide (0 ≤ (rd Az Ae)) = false := decide_eq_false Cy; clear Cy; obtain ⟨Cp, Bu⟩ : ∃ y_ : List Int, y_ = (Az.set (Ae : Int).toNat Ay) := ⟨_, rfl⟩
         replace H : (spec_l12Areas.l2 k2 Cp Ay Ae (([Ae] : List Int)) 0 Ao Ap Af) = some (r1, r2) := by first | (rw [Bu]; with_reducible exact H) | (have H2_ := (Option.bind_some _ _).symm.trans H; rw [Bu]; with_reducible exact H2_) | (have H2_ := (Option.bind_some _ _).symm.trans H; with_reducible exact H2_) | with_reducible exact H | (rw [Bu]; exact H) | exact H
         have Dm := Aside0.mk Bu; clear Bu; obtain ⟨Dn, Bv⟩ : ∃ y_ : List Int, y_ = (([Ae] : List Int)) := ⟨_, rfl⟩
         replace H : (spec_l12Areas.l2 k2 Cp Ay Ae Dn 0 Ao Ap Af) = some (r1, r2) := by first | (rw [Bv]; with_reducible exact H) | (have H2_ := (Option.bind_some _ _).symm.trans H; rw [Bv]; with_reducible exact H2_) | (have H2_ := (Option.bind_some _ _).symm.trans H; with_reducible exact H2_) | with_reducible exact H | (rw [Bv]; exact H) | exact H
         have Cz := Aside0.mk Bv; clear Bv; have H' := Aside0.mk H; clear H; obtain ⟨E4, Bc, Eb⟩ := Kd.R_slice Ad.out; subst Eb; have Bm : 0 ≤ (Ae : Int) := of_decide_eq_true Z3; have Bn : Ae < (Az.length : Int) := of_decide_eq_true Z3; obtain ⟨ad134, e134, Bf⟩ := Kd.at_int (Kd.R_reads' Ad.out).2.2 Ae Bm Bn; cases e134; replace Bm := eq_true Bm; replace Bn := eq_true Bn; have C0 : 0 ≤ (Ae : Int) := of_decide_eq_true Z3; have C1 : (Ae : Int) < ((Az.length : Int) : Int) := of_decide_eq_true Z3; obtain ⟨Au, E5, Dp, Dq, gl14, cl14, HG14⟩ := Kd.R_form Ad.out (by omega)
         (first | cases Dp | (injection Dp with ea_ en_ ec_; (first | subst ea_ | (injection ea_ with ea_; subst ea_)); subst ec_; clear en_))
         have Dr := Aside0.mk Dq; have E6 := Aside0.mk HG14; clear Dq gl14 HG14
         (first | simp only [add_plain] at Bf | skip)
         obtain ⟨Co, Ec⟩ := Kd.R_celln 0 Ad.out (Ae : Int) C0 C1; replace C0 := eq_true C0; replace C1 := eq_true C1; have C3 := Kd.R_putg Ad.out (Ae : Int) Ay
         go_wp2_with (first | ((with_reducible refine gate_store (t := 3) (p := 37) rfl ?_); refine store_event (t := 3) (p := 37) (v := ?vo_w17) (w1 := (wr.setCell ⟨Au, (Ae : Int).toNat, none⟩ (.int .i64 Ay))) ?hg ?ho ?hn ?hr ?_; (case ho => rfl); (case hg => rfl); (case hn => rfl); (case hr => first | (go_simp; done) | (go_simp; rfl)); intro Ed hw; have hg : wr.grownBy Ed (some Au) := (by rw [hw]; exact C3.2); have hp_ : Kd.R (Kd.int .i64) 3 Ed w.heap.size (fun _ => True) (.slice (some ⟨Au, 0, none⟩) Az.length Bc) Cp := (by rw [hw, Dm.out]; exact C3.1); clear C3; replace Ab := aM (blk_grown (g := Aq) (o := .cells #[.int .i64 Ao, .int .i64 Ap, .slice Bg Af.length Ba] 28 (0, 0)) Z12 hg (Kd.R_ne Ad.out Ab.out (by decide))); replace Ad := aM (hp_); replace HB := aM ((by rw [hw]; exact below_set (HB.out) Dr.out : Below w.heap.size w Ed)); clear hg hw hp_) | ((with_reducible refine gate_dst (N := 39) rfl ?_); refine Kd.R_lit (Kd.int .i64) _ 3 ?hg (N := 39) ?hd (xs := ([Ae] : List Int)) (inner := [.int .i64 Ae]) (ok := fun _ => True) (okp := fun _ => True) ?hr ?hp (fun _ hk => hk) trivial (Below.refl _ _) (Nat.le_refl _) (by simp) ?_; (case hd => rfl); (case hg => rfl); (case hr => first | (go_simp; done) | (go_simp; rfl)); (case hp => exact (Reps.one (show Kd.M (Kd.int .i64) _ _ _ Ae [.int .i64 Ae] from rfl) (Reps.none _ _))); intro E7 Fr Cn hb hg_ hnew_; clear hg_ hnew_; (first | rw [← Cz.out] at Cn | (simp only [Int.reduceToNat] at Cn; rw [← Cz.out] at Cn)); have Ds := aM (Kd.R_lower (Kd.R_new' Cn (Kd.R_lt Z35)) (below_size Z34)); replace Ad := aM (Kd.R_elder' Z35 (Kd.R_base Cn) hb); replace Ab := bkB Ab hb; replace HB := hbS Z34 hb; clear hb Cn))
         go_loopg [8, 9] k2 (fun kq v8 v9 w' => ∃ (Bo : List Int) (Bd : List Int) (Ax : Int), v9 = .int .i64 Ax ∧ Aside0 (spec_l12Areas.l2 kq Bo Ay Ae Bd Ax Ao Ap Af = some (r1, r2)) ∧ Aside0 (kq ≤ k2) ∧ Aside0 (Kd.R (Kd.int .i64) 3 w' w.heap.size (fun k_ => nV k_ v8) (.slice (some ⟨Au, 0, none⟩) Az.length Bc) Bo) ∧ Aside0 (Kd.R (Kd.int .i64) 3 w' w.heap.size (fun k_ => some k_ ≠ ((.slice (some ⟨Au, 0, none⟩) Az.length Bc) : Value).ownBlock) v8 Bd) ∧ Aside0 (w'.heap[Aq]? = some (.cells #[.int .i64 Ao, .int .i64 Ap, (.slice Bg Af.length Ba)] 28 (0, 0))) ∧ Aside0 (Below w.heap.size w w'))
         case atStart => exact ⟨(Cp), (Dn), (0), Z14, H', ⟨Nat.le_refl _⟩, ⟨by (with_reducible repeat (first | apply Kd.R_alloc | apply Kd.R_drewN | apply Kd.R_drew)); exact Kd.R_mono Ad.out (fun _ hk => hk.2)⟩, ⟨by (with_reducible repeat (first | apply Kd.R_alloc | apply Kd.R_drewN | apply Kd.R_drew)); exact Kd.R_mono Ds.out (fun _ hk => hk.2)⟩, ⟨Z12⟩, ⟨Z34⟩⟩
         case round =>
          clear H'; (try clear c1); (try clear p1); (try clear q1); (try clear E8); (try clear E9); (try clear p2); (try clear c4); (try clear c5); (try clear c5b0); (try clear c6); (try clear p6); (try clear Cx); (try clear c10b0); (try clear Dc); (try clear c11b0); (try clear Cy); (try clear c12b0); (try clear Ew); (try clear Ex); (try clear Ee); (try clear C0); (try clear C1); (try clear Ef); (try clear Eg); (try clear B0); (try clear B2); (try clear B5); (try clear Cb); (try clear Cc); (try clear Cd); (try clear B6); (try clear B7); (try clear Ca); (try clear Ce); (try clear Cf); (try clear Cg); (try clear Bf); (try clear Co); (try clear Bm); (try clear C0); (try clear p2); (try clear p6); (try clear Bn); (try clear C1); obtain ⟨Bo, Bd, Ax, rfl, HA, HK3, Ad, Al, Ab, HB⟩ := hrel; have Ag := (Kd.R_reads' Ad.out).1; rw [Ag] at Ad
          (try simp only [Ag])
          (try simp only [Ag] at Ab)
          (try simp only [Ag] at Al)
          cases gk with
          | zero => exact absurd HA.out (by simp [spec_l12Areas.l2])
          | succ k3 =>
           have H := HA.out; clear HA
           simp only [spec_l12Areas.l2] at H
           by_cases C4 : Ax < (Bd.length : Int)
           ·rw [if_pos C4] at H
            have c20b0 : decide (Ax < (Bd.length : Int)) = true := decide_eq_true C4
            (try simp only [Ag] at c20b0)
            clear C4
            by_cases Dt : 0 ≤ Ax
            ·rw [if_pos Dt] at H
             have c21b0 : decide (0 ≤ Ax) = true := decide_eq_true Dt; clear Dt; replace H := Option.bind_eq_some_iff.mp H; obtain ⟨Ac, Du, H⟩ := H; replace H : (spec_l12Areas.l3 k3 Bo Ay Ae Bd Ax Ac 0 Ao Ap Af) = some (r1, r2) := H; have Fa := Aside0.mk Du; clear Du; have H' := Aside0.mk H; clear H; obtain ⟨Fb, Fc, Eh⟩ := Kd.R_slice Al.out; subst Eh
             try go_wp2
             replace Ad := aM (Kd.R_drew Ad.out); replace Al := aM (Kd.R_drew Al.out); replace Ab := aM (blk_drew Ab.out); replace HB := aM (below_drew1 HB.out); have Cq : 0 ≤ (Ax : Int) := of_decide_eq_true Z3; have Cr : Ax < (Bd.length : Int) := of_decide_eq_true Z3; obtain ⟨ad139, e139, Bp⟩ := Kd.at_int (Kd.R_reads' Al.out).2.2 Ax Cq Cr; cases e139; replace Cq := eq_true Cq; replace Cr := eq_true Cr; refine start_ (n := 7) (S := fun w' => w'.cell? ⟨Aq, 0, none⟩ = some (.int .i64 Ao) ∧ w'.cell? ⟨Aq, 1, none⟩ = some (.int .i64 Ap) ∧ w'.cell? ⟨Aq, 2, none⟩ = some (.slice Bg Af.length Ba) ∧ w'.cell? (ad139.add (Ax).toNat) = some (.int .i64 (rd Bd Ax))) (ds := []) #[false, false, false, false, false, false, false] Z61 rfl rfl ⟨(blk_cell Ab.out 0).trans rfl, (blk_cell Ab.out 1).trans rfl, (blk_cell Ab.out 2).trans rfl, Bp⟩ (fun hHeld => ?_)
             generalize wr.drew = Fs at Ad Al Ab HB Bp hHeld ⊢
             refine puK 1 47 #[false, true, false, false, false, false, false] rfl rfl ?_; refine puK 2 48 #[false, true, true, false, false, false, false] rfl rfl ?_; refine puK 3 49 #[false, true, true, true, false, false, false] rfl rfl ?_; refine taK 0 46 #[true, true, true, true, false, false, false] hHeld rfl rfl ?_; refine taK 4 50 #[true, true, true, true, true, false, false] hHeld rfl rfl ?_; refine one_ (i := 5) (N := some 51) #[true, true, true, true, true, true, false] rfl rfl Z61 (by decide) (fun K hK => ?_); refine goes_ Try.func66 Z61 rfl #[.agg #[.int .i64 Ao, .int .i64 Ap, .slice Bg Af.length Ba], .int .i64 (rd Bd Ax)] (by rfl) rfl rfl Z55 ?_; (with_reducible refine (spec_l12Next.calls k3 Ao Ap _ _ Af (rd Bd Ax) Ac _ ?side1 ?side2 Fa.out).mono ?_); (case side1 => exact Z120); (case side2 => exact Df.out); rintro e Ft ⟨C5, rfl, D0, hb⟩; have HS3_ := (hb.cell (World.block_lt_of_cell? _ _ (hHeld.2.2.2))).trans (hHeld.2.2.2); refine ⟨_, rfl, ?_⟩; have Dv := aM (Kd.R_lower (Kd.R_new' (Kd.R_new' D0 (Kd.R_lt Z35)) (Kd.R_lt Z71)) (below_size Z34)); replace Ad := aM (Kd.R_elder' Z35 (Kd.R_base D0) hb); replace Al := aM (Kd.R_elder' Z71 (Kd.R_base D0) hb); replace Ab := bkB Ab hb; replace HB := hbS Z34 hb; (try clear hb); (try clear hb2); (try clear hk); (try clear hi); (try clear D0); refine hK.out _ _ (by exact ⟨(blk_cell Ab.out 0).trans rfl, (blk_cell Ab.out 1).trans rfl, (blk_cell Ab.out 2).trans rfl, HS3_⟩) (fun hHeld => ?_); clear hK K; refine noR 51 ?_; refine puK 6 10 #[true, true, true, true, true, true, true] rfl rfl ?_; refine done_ Z61 ?_
             try go_wp2
             go_loopg [8, 11] k3 (fun kq v8 Fd w' => ∃ (Ar : List Int) (Bh : List Int) (Aa : Int), Fd = .int .i64 Aa ∧ Aside0 (spec_l12Areas.l3 kq Ar Ay Ae Bh Ax Ac Aa Ao Ap Af = some (r1, r2)) ∧ Aside0 (kq ≤ k3) ∧ Aside0 (Kd.R (Kd.int .i64) 3 w' w.heap.size (fun k_ => nV k_ v8 ∧ nV k_ C5) (.slice (some ⟨Au, 0, none⟩) Bo.length Bc) Ar) ∧ Aside0 (Kd.R (Kd.int .i64) 3 w' w.heap.size (fun k_ => some k_ ≠ ((.slice (some ⟨Au, 0, none⟩) Bo.length Bc) : Value).ownBlock ∧ nV k_ C5) v8 Bh) ∧ Aside0 (Kd.R (Kd.int .i64) 3 w' w.heap.size (fun k_ => some k_ ≠ ((.slice (some ⟨Au, 0, none⟩) Bo.length Bc) : Value).ownBlock ∧ nV k_ v8) C5 Ac) ∧ Aside0 (w'.heap[Aq]? = some (.cells #[.int .i64 Ao, .int .i64 Ap, (.slice Bg Af.length Ba)] 28 (0, 0))) ∧ Aside0 (Below w.heap.size w w'))
             case atStart => exact ⟨(Bo), (Bd), (0), Z14, H', ⟨Nat.le_refl _⟩, ⟨by (try simp only [Ag]); (with_reducible repeat (first | apply Kd.R_alloc | apply Kd.R_drewN | apply Kd.R_drew)); exact Ad.out⟩, ⟨by (try simp only [Ag]); (with_reducible repeat (first | apply Kd.R_alloc | apply Kd.R_drewN | apply Kd.R_drew)); exact Al.out⟩, ⟨by (try simp only [Ag]); (with_reducible repeat (first | apply Kd.R_alloc | apply Kd.R_drewN | apply Kd.R_drew)); exact Kd.R_mono Dv.out (fun _ hk => ⟨hk.1.2, hk.2⟩)⟩, ⟨Z180⟩, ⟨Z34⟩⟩
             case round =>
              clear H'; (try clear c1); (try clear p1); (try clear q1); (try clear E8); (try clear E9); (try clear c2); (try clear p2); (try clear c4); (try clear c5); (try clear c5b0); (try clear c6); (try clear p6); (try clear Cx); (try clear c10b0); (try clear Dc); (try clear c11b0); (try clear Cy); (try clear c12b0); (try clear Ew); (try clear Ex); (try clear Ee); (try clear C0); (try clear C1); (try clear Ef); (try clear Eg); (try clear C4); (try clear c20b0); (try clear Dt); (try clear c21b0); (try clear B0); (try clear B2); (try clear B5); (try clear Cb); (try clear Cc); (try clear Cd); (try clear B6); (try clear B7); (try clear Ca); (try clear Ce); (try clear Cf); (try clear Cg); (try clear Bf); (try clear Bp); (try clear Co); (try clear p1); (try clear Ew); (try clear Bm); (try clear Cq); (try clear C0); (try clear p2); (try clear p6); (try clear q1); (try clear Ex); (try clear Bn); (try clear Cr); (try clear C1); obtain ⟨Ar, Bh, Aa, rfl, HA, HK4, Ad, Al, Ah, Ab, HB⟩ := hrel; have Ai := (Kd.R_reads' Ad.out).1; rw [Ai] at Ad
              (try simp only [Ai])
              (try simp only [Ai] at Ab)
              (try simp only [Ai] at Al)
              (try simp only [Ai] at Ah)
              cases gk with
              | zero => exact absurd HA.out (by simp [spec_l12Areas.l3])
              | succ k4 =>
               have H := HA.out; clear HA
               simp only [spec_l12Areas.l3] at H
               by_cases Dd : Aa < (Ac.length : Int)
               ·rw [if_pos Dd] at H
                have c26b0 : decide (Aa < (Ac.length : Int)) = true := decide_eq_true Dd
                (try simp only [Ag, Ai] at c26b0)
                clear Dd
                by_cases D1 : 0 ≤ Aa
                ·rw [if_pos D1] at H
                 have c27b0 : decide (0 ≤ Aa) = true := decide_eq_true D1; clear D1
                 by_cases D2 : 0 ≤ (rd Ac Aa)
                 ·rw [if_pos D2] at H
                  have c28b0 : decide (0 ≤ (rd Ac Aa)) = true := decide_eq_true D2; clear D2
                  by_cases D3 : (rd Ac Aa) < (Ar.length : Int)
                  ·rw [if_pos D3] at H
                   have c29b0 : decide ((rd Ac Aa) < (Ar.length : Int)) = true := decide_eq_true D3
                   (try simp only [Ag, Ai] at c29b0)
                   clear D3
                   by_cases De : (rd Ar (rd Ac Aa)) < 0
                   ·rw [if_pos De] at H
                    have c30b0 : decide ((rd Ar (rd Ac Aa)) < 0) = true := decide_eq_true De; clear De
                    by_cases D4 : (rd Ac Aa) < (Af.length : Int)
                    ·rw [if_pos D4] at H
                     have c31b0 : decide ((rd Ac Aa) < (Af.length : Int)) = true := decide_eq_true D4
                     (try simp only [Ag, Ai] at c31b0)
                     clear D4
                     by_cases D5 : 0 ≤ Ae
                     ·rw [if_pos D5] at H
                      have c32b0 : decide (0 ≤ Ae) = true := decide_eq_true D5; clear D5
                      by_cases D6 : Ae < (Af.length : Int)
                      ·rw [if_pos D6] at H
                       have c33b0 : decide (Ae < (Af.length : Int)) = true := decide_eq_true D6
                       (try simp only [Ag, Ai] at c33b0)
                       clear D6
                       by_cases C6 : (rd Af (rd Ac Aa)) = (rd Af Ae)
                       ·rw [if_pos C6] at H
                        have c34b0 : ((rd Af (rd Ac Aa)) == (rd Af Ae)) = true := beq_iff_eq.mpr C6; have c34b1 : ((rd Af (rd Ac Aa)) != (rd Af Ae)) = false := bne_eq_false_iff_eq.mpr C6; clear C6; obtain ⟨Cs, Bw⟩ : ∃ y_ : List Int, y_ = (Ar.set ((rd Ac Aa) : Int).toNat Ay) := ⟨_, rfl⟩
                        replace H : (if Bh.length < 17592186044416 then (spec_l12Areas.l3 k4 Cs Ay Ae (Bh ++ [rd Ac Aa]) Ax Ac (wrap64 (Aa + 1)) Ao Ap Af) else (none)) = some (r1, r2) := by first | (rw [Bw]; with_reducible exact H) | (have H2_ := (Option.bind_some _ _).symm.trans H; rw [Bw]; with_reducible exact H2_) | (have H2_ := (Option.bind_some _ _).symm.trans H; with_reducible exact H2_) | with_reducible exact H | (rw [Bw]; exact H) | exact H
                        have Dw := Aside0.mk Bw; clear Bw
                        by_cases D7 : Bh.length < 17592186044416
                        ·rw [if_pos D7] at H
                         have LMc36 := Aside0.mk D7; clear D7; obtain ⟨Dx, Bx⟩ : ∃ y_ : List Int, y_ = (Bh ++ [rd Ac Aa]) := ⟨_, rfl⟩
                         replace H : (spec_l12Areas.l3 k4 Cs Ay Ae Dx Ax Ac (wrap64 (Aa + 1)) Ao Ap Af) = some (r1, r2) := by first | (rw [Bx]; with_reducible exact H) | (have H2_ := (Option.bind_some _ _).symm.trans H; rw [Bx]; with_reducible exact H2_) | (have H2_ := (Option.bind_some _ _).symm.trans H; with_reducible exact H2_) | with_reducible exact H | (rw [Bx]; exact H) | exact H
                         have Dy := Aside0.mk Bx; clear Bx; have H' := Aside0.mk H; clear H; obtain ⟨Fe, Ct, Ei⟩ := Kd.R_slice Ah.out; subst Ei
                         try go_wp2
                         replace Ad := aM (Kd.R_drew Ad.out); replace Al := aM (Kd.R_drew Al.out); replace Ah := aM (Kd.R_drew Ah.out); replace Ab := aM (blk_drew Ab.out); replace HB := aM (below_drew1 HB.out); have Bi : 0 ≤ (Aa : Int) := of_decide_eq_true Z3; have Bj : Aa < (Ac.length : Int) := of_decide_eq_true Z3; obtain ⟨ad143, e143, Aw⟩ := Kd.at_int (Kd.R_reads' Ah.out).2.2 Aa Bi Bj; cases e143; replace Bi := eq_true Bi; replace Bj := eq_true Bj; have Bk : 0 ≤ ((rd Ac Aa) : Int) := of_decide_eq_true Z3; have Bl : (rd Ac Aa) < (Ar.length : Int) := of_decide_eq_true Z3; obtain ⟨ad144, e144, Aj⟩ := Kd.at_int (Kd.R_reads' Ad.out).2.2 (rd Ac Aa) Bk Bl; obtain rfl : (⟨Au, 0, none⟩ : Addr) = ad144 := (by injection e144)
                         (first | simp only [add_plain] at Aj | simp only [add_at] at Aj | simp only [Addr.add, Nat.zero_add] at Aj | skip)
                         replace Bk := eq_true Bk; replace Bl := eq_true Bl; have Ch : 0 ≤ (Aa : Int) := of_decide_eq_true Z3; have Ci : Aa < (Ac.length : Int) := of_decide_eq_true Z3; obtain ⟨ad145, e145, Bb⟩ := Kd.at_int (Kd.R_reads' Ah.out).2.2 Aa Ch Ci; obtain rfl : ad143 = ad145 := (by injection e145); replace Ch := eq_true Ch; replace Ci := eq_true Ci; have Cj : 0 ≤ ((rd Ac Aa) : Int) := of_decide_eq_true Z3; have Ck : (rd Ac Aa) < (Af.length : Int) := of_decide_eq_true Z3; obtain ⟨ad146, e146, Am⟩ := Kd.at_int Bq.out (rd Ac Aa) Cj Ck; have hw146_0 := Am; cases e146; replace Am := (HB.out.cell (World.block_lt_of_cell? w _ Am)).trans Am; replace Cj := eq_true Cj; replace Ck := eq_true Ck; have Cl : 0 ≤ (Ae : Int) := of_decide_eq_true Z3; have Cm : Ae < (Af.length : Int) := of_decide_eq_true Z3; obtain ⟨ad147, e147, An⟩ := Kd.at_int Bq.out Ae Cl Cm; have hw147_0 := An; obtain rfl : ad146 = ad147 := (by injection e147); replace An := (HB.out.cell (World.block_lt_of_cell? w _ An)).trans An; replace Cl := eq_true Cl; replace Cm := eq_true Cm; refine start_ (n := 24) (S := fun w' => w'.cell? ⟨Aq, 0, none⟩ = some (.int .i64 Ao) ∧ w'.cell? ⟨Aq, 1, none⟩ = some (.int .i64 Ap) ∧ w'.cell? ⟨Aq, 2, none⟩ = some (.slice (some ad146) Af.length Ba) ∧ w'.cell? (ad143.add (Aa).toNat) = some (.int .i64 (rd Ac Aa)) ∧ w'.cell? ⟨Au, ((rd Ac Aa)).toNat, none⟩ = some (.int .i64 (rd Ar (rd Ac Aa))) ∧ w'.cell? (ad143.add (Aa).toNat) = some (.int .i64 (rd Ac Aa)) ∧ w'.cell? (ad146.add ((rd Ac Aa)).toNat) = some (.int .i64 (rd Af (rd Ac Aa))) ∧ w'.cell? (ad146.add (Ae).toNat) = some (.int .i64 (rd Af Ae))) (ds := []) #[false, false, false, false, false, false, false, false, false, false, false, false, false, false, false, false, false, false, false, false, false, false, false, false] Z61 rfl rfl ⟨(blk_cell Ab.out 0).trans rfl, (blk_cell Ab.out 1).trans rfl, (blk_cell Ab.out 2).trans rfl, Aw, Aj, Bb, ((HB.out.cell (World.block_lt_of_cell? w _ hw146_0)).trans hw146_0), ((HB.out.cell (World.block_lt_of_cell? w _ hw147_0)).trans hw147_0)⟩ (fun hHeld => ?_); refine with_tabW spec_l12Areas.tab20 spec_l12Areas.bits20 (fun HT_ HW_ => ?_)
                         generalize wr.drew = Ey at Ad Al Ah Ab HB Aw Aj Bb Am An hHeld ⊢
                         refine puR 0 58 #[true, false, false, false, false, false, false, false, false, false, false, false, false, false, false, false, false, false, false, false, false, false, false, false] HT_ rfl rfl ?_; refine puR 1 59 #[true, true, false, false, false, false, false, false, false, false, false, false, false, false, false, false, false, false, false, false, false, false, false, false] HT_ rfl rfl ?_; refine puR 2 60 #[true, true, true, false, false, false, false, false, false, false, false, false, false, false, false, false, false, false, false, false, false, false, false, false] HT_ rfl rfl ?_; refine puR 3 61 #[true, true, true, true, false, false, false, false, false, false, false, false, false, false, false, false, false, false, false, false, false, false, false, false] HT_ rfl rfl ?_; refine taR 4 62 #[true, true, true, true, true, false, false, false, false, false, false, false, false, false, false, false, false, false, false, false, false, false, false, false] HT_ HW_ hHeld rfl rfl ?_; refine puR 5 63 #[true, true, true, true, true, true, false, false, false, false, false, false, false, false, false, false, false, false, false, false, false, false, false, false] HT_ rfl rfl ?_; refine taR 6 64 #[true, true, true, true, true, true, true, false, false, false, false, false, false, false, false, false, false, false, false, false, false, false, false, false] HT_ HW_ hHeld rfl rfl ?_; refine puR 7 65 #[true, true, true, true, true, true, true, true, false, false, false, false, false, false, false, false, false, false, false, false, false, false, false, false] HT_ rfl rfl ?_; refine puR 8 66 #[true, true, true, true, true, true, true, true, true, false, false, false, false, false, false, false, false, false, false, false, false, false, false, false] HT_ rfl rfl ?_; refine puR 9 67 #[true, true, true, true, true, true, true, true, true, true, false, false, false, false, false, false, false, false, false, false, false, false, false, false] HT_ rfl rfl ?_; refine puR 11 69 #[true, true, true, true, true, true, true, true, true, true, false, true, false, false, false, false, false, false, false, false, false, false, false, false] HT_ rfl rfl ?_; refine puR 12 70 #[true, true, true, true, true, true, true, true, true, true, false, true, true, false, false, false, false, false, false, false, false, false, false, false] HT_ rfl rfl ?_; refine puR 13 71 #[true, true, true, true, true, true, true, true, true, true, false, true, true, true, false, false, false, false, false, false, false, false, false, false] HT_ rfl rfl ?_; refine puR 17 75 #[true, true, true, true, true, true, true, true, true, true, false, true, true, true, false, false, false, true, false, false, false, false, false, false] HT_ rfl rfl ?_; refine puR 19 77 #[true, true, true, true, true, true, true, true, true, true, false, true, true, true, false, false, false, true, false, true, false, false, false, false] HT_ rfl rfl ?_; refine taR 10 68 #[true, true, true, true, true, true, true, true, true, true, true, true, true, true, false, false, false, true, false, true, false, false, false, false] HT_ HW_ hHeld rfl rfl ?_; refine taR 14 72 #[true, true, true, true, true, true, true, true, true, true, true, true, true, true, true, false, false, true, false, true, false, false, false, false] HT_ HW_ hHeld rfl rfl ?_; refine puR 15 73 #[true, true, true, true, true, true, true, true, true, true, true, true, true, true, true, true, false, true, false, true, false, false, false, false] HT_ rfl rfl ?_; refine taR 16 74 #[true, true, true, true, true, true, true, true, true, true, true, true, true, true, true, true, true, true, false, true, false, false, false, false] HT_ HW_ hHeld rfl rfl ?_; refine taR 18 76 #[true, true, true, true, true, true, true, true, true, true, true, true, true, true, true, true, true, true, true, true, false, false, false, false] HT_ HW_ hHeld rfl rfl ?_; refine puR 20 78 #[true, true, true, true, true, true, true, true, true, true, true, true, true, true, true, true, true, true, true, true, true, false, false, false] HT_ rfl rfl ?_; refine taR 21 79 #[true, true, true, true, true, true, true, true, true, true, true, true, true, true, true, true, true, true, true, true, true, true, false, false] HT_ HW_ hHeld rfl rfl ?_; refine puR 22 80 #[true, true, true, true, true, true, true, true, true, true, true, true, true, true, true, true, true, true, true, true, true, true, true, false] HT_ rfl rfl ?_; refine puR 23 81 #[true, true, true, true, true, true, true, true, true, true, true, true, true, true, true, true, true, true, true, true, true, true, true, true] HT_ rfl rfl ?_; refine done_ (done_of HT_.out Z61) ?_; have C7 : 0 ≤ (Aa : Int) := of_decide_eq_true Z3; have C8 : Aa < (Ac.length : Int) := of_decide_eq_true Z3; obtain ⟨ad148, e148, D8⟩ := Kd.at_int (Kd.R_reads' Ah.out).2.2 Aa C7 C8; obtain rfl : ad143 = ad148 := (by injection e148); replace C7 := eq_true C7; replace C8 := eq_true C8; have Ej : 0 ≤ ((rd Ac Aa) : Int) := of_decide_eq_true Z3; have Ek : ((rd Ac Aa) : Int) < ((Ar.length : Int) : Int) := of_decide_eq_true Z3; obtain ⟨El, Em⟩ := Kd.R_celln 0 Ad.out ((rd Ac Aa) : Int) Ej Ek; replace Ej := eq_true Ej; replace Ek := eq_true Ek; obtain ⟨hy39_, hz39_⟩ := Kd.R_celln 0 Ad.out ((rd Ac Aa) : Int) (of_decide_eq_true Z3) (of_decide_eq_true Z3); have C9 := Kd.R_putg Ad.out ((rd Ac Aa) : Int) Ay
                         try go_wp2_with (first | ((with_reducible refine gate_store (t := 3) (p := 88) rfl ?_); refine store_event (t := 3) (p := 88) (v := ?vo_w40) (w1 := (Ey.setCell ⟨Au, ((rd Ac Aa) : Int).toNat, none⟩ (.int .i64 Ay))) ?hg ?ho ?hn ?hr ?_; (case ho => rfl); (case hg => rfl); (case hn => rfl); (case hr => first | (go_simp; done) | (go_simp; rfl)); intro En hw; have hg : Ey.grownBy En (some Au) := (by rw [hw]; exact C9.2); have hp_ : Kd.R (Kd.int .i64) 3 En w.heap.size (fun k_ => nV k_ u8 ∧ some k_ ≠ (.slice (some ad143) Ac.length Ct : Value).ownBlock) (.slice (some ⟨Au, 0, none⟩) Ar.length Bc) Cs := (by rw [hw, Dw.out]; exact C9.1); clear C9; replace Al := aM (Kd.R_after (v := (.slice (some ⟨Au, 0, none⟩) Ar.length Bc)) (v1 := (.slice (some ⟨Au, 0, none⟩) Ar.length Bc)) (ok := (fun k_ => some k_ ≠ (.slice (some ad143) Ac.length Ct : Value).ownBlock)) Z172 hg (.inl rfl)); replace Ah := aM (Kd.R_after (v := (.slice (some ⟨Au, 0, none⟩) Ar.length Bc)) (v1 := (.slice (some ⟨Au, 0, none⟩) Ar.length Bc)) (ok := (fun k_ => nV k_ u8)) Z173 hg (.inl rfl)); replace Ab := aM (blk_grown (g := Aq) (o := .cells #[.int .i64 Ao, .int .i64 Ap, .slice (some ad146) Af.length Ba] 28 (0, 0)) Z12 hg (Kd.R_ne Ad.out Ab.out (by decide))); replace Ad := aM (hp_); replace HB := aM ((by rw [hw]; exact below_set (HB.out) Dr.out : Below w.heap.size w En)); clear hg hw hp_; have Da : 0 ≤ (Aa : Int) := of_decide_eq_true Z3; have Db : Aa < (Ac.length : Int) := of_decide_eq_true Z3; obtain ⟨ad150, e150, D9⟩ := Kd.at_int (Kd.R_reads' Ah.out).2.2 Aa Da Db; obtain rfl : ad143 = ad150 := (by injection e150); replace Da := eq_true Da; replace Db := eq_true Db) | ((with_reducible refine gate_builtin (b := .append) (xs := #[.tmp 89, .tmp 94]) rfl ?_); at_builtin; refine Kd.R_append (Kd.int .i64) (w0 := w) w.heap.size rfl (.tmp 89) (.tmp 94) 22 3 (.int .i64 0) 8 rfl Try.underlying22 info3 rfl (by decide) (by omega) u8 Bh (rd Ac Aa) [.int .i64 (rd Ac Aa)] (fun k_ => some k_ ≠ (.slice (some ⟨Au, 0, none⟩) Ar.length Bc : Value).ownBlock ∧ some k_ ≠ (.slice (some ad143) Ac.length Ct : Value).ownBlock) (fun _ => False) rfl rfl ?aP (fun _ hk => hk.elim) ?aF ?aO ?aB ?aS ?aL ?_; (case aP => exact rfl); (case aB => exact Z34); (case aF => exact (fun k_ hk => ⟨Kd.fresh' (Kd.R_lt Z35) k_ hk, Kd.fresh' (Kd.R_lt Z109) k_ hk⟩)); (case aO => exact Z172); (case aS => exact (below_size Z34)); (case aL => have := LMc36.out; omega); intro Ff Fu ho hb hg hat; rw [← Dy.out] at ho; replace Ad := aM (Kd.R_after (ok := (fun k_ => some k_ ≠ (.slice (some ad143) Ac.length Ct : Value).ownBlock)) (by (with_reducible repeat (first | apply Kd.R_alloc | apply Kd.R_drewN | apply Kd.R_drew)); exact Kd.R_mono Ad.out (fun _ hk => ⟨hk.2, hk.1⟩)) hg hat); replace Ah := aM (Kd.R_after (ok := (fun k_ => some k_ ≠ (.slice (some ⟨Au, 0, none⟩) Ar.length Bc : Value).ownBlock)) Z173 hg hat); replace Ab := aM (blk_grown (g := Aq) (o := .cells #[.int .i64 Ao, .int .i64 Ap, .slice (some ad146) Af.length Ba] 28 (0, 0)) Z12 hg (Kd.R_ne Al.out Ab.out (by decide))); replace HB := aM (hb); have Dz := aM (ho); clear Al; clear ho hb hg hat))
                         (try simp only [← Ai])
                         go_roundg k4
                         case measure => have := HK1.out; have := HK2.out; have := HK3.out; have := HK4.out; omega
                         case rel => exact ⟨(Cs), (Dx), (wrap64 (Aa + 1)), Z14, H', ⟨Z162⟩, ⟨by (try simp only [Ag]); (try simp only [Ai]); (with_reducible repeat (first | apply Kd.R_alloc | apply Kd.R_drewN | apply Kd.R_drew)); exact Kd.R_mono Ad.out (fun _ hk => ⟨hk.2, hk.1⟩)⟩, ⟨by (try simp only [Ag]); (try simp only [Ai]); (with_reducible repeat (first | apply Kd.R_alloc | apply Kd.R_drewN | apply Kd.R_drew)); exact Dz.out⟩, ⟨Z135⟩, ⟨Z107⟩, ⟨Z34⟩⟩
                        ·rw [if_neg D7] at H
                         exact absurd H (by simp)
                       ·rw [if_neg C6] at H
                        have c34b0 : ((rd Af (rd Ac Aa)) == (rd Af Ae)) = false := beq_eq_false_iff_ne.mpr C6; have c34b1 : ((rd Af (rd Ac Aa)) != (rd Af Ae)) = true := bne_iff_ne.mpr C6; have H' := Aside0.mk H; clear H; obtain ⟨Fg, Fh, Eo⟩ := Kd.R_slice Ah.out; subst Eo
                        try go_wp2
                        replace Ad := aM (Kd.R_drew Ad.out); replace Al := aM (Kd.R_drew Al.out); replace Ah := aM (Kd.R_drew Ah.out); replace Ab := aM (blk_drew Ab.out); replace HB := aM (below_drew1 HB.out); have Bi : 0 ≤ (Aa : Int) := of_decide_eq_true Z3; have Bj : Aa < (Ac.length : Int) := of_decide_eq_true Z3; obtain ⟨ad143, e143, Aw⟩ := Kd.at_int (Kd.R_reads' Ah.out).2.2 Aa Bi Bj; cases e143; replace Bi := eq_true Bi; replace Bj := eq_true Bj; have Bk : 0 ≤ ((rd Ac Aa) : Int) := of_decide_eq_true Z3; have Bl : (rd Ac Aa) < (Ar.length : Int) := of_decide_eq_true Z3; obtain ⟨ad144, e144, Aj⟩ := Kd.at_int (Kd.R_reads' Ad.out).2.2 (rd Ac Aa) Bk Bl; obtain rfl : (⟨Au, 0, none⟩ : Addr) = ad144 := (by injection e144)
                        (first | simp only [add_plain] at Aj | simp only [add_at] at Aj | simp only [Addr.add, Nat.zero_add] at Aj | skip)
                        replace Bk := eq_true Bk; replace Bl := eq_true Bl; have Ch : 0 ≤ (Aa : Int) := of_decide_eq_true Z3; have Ci : Aa < (Ac.length : Int) := of_decide_eq_true Z3; obtain ⟨ad145, e145, Bb⟩ := Kd.at_int (Kd.R_reads' Ah.out).2.2 Aa Ch Ci; obtain rfl : ad143 = ad145 := (by injection e145); replace Ch := eq_true Ch; replace Ci := eq_true Ci; have Cj : 0 ≤ ((rd Ac Aa) : Int) := of_decide_eq_true Z3; have Ck : (rd Ac Aa) < (Af.length : Int) := of_decide_eq_true Z3; obtain ⟨ad146, e146, Am⟩ := Kd.at_int Bq.out (rd Ac Aa) Cj Ck; have hw146_0 := Am; cases e146; replace Am := (HB.out.cell (World.block_lt_of_cell? w _ Am)).trans Am; replace Cj := eq_true Cj; replace Ck := eq_true Ck; have Cl : 0 ≤ (Ae : Int) := of_decide_eq_true Z3; have Cm : Ae < (Af.length : Int) := of_decide_eq_true Z3; obtain ⟨ad147, e147, An⟩ := Kd.at_int Bq.out Ae Cl Cm; have hw147_0 := An; obtain rfl : ad146 = ad147 := (by injection e147); replace An := (HB.out.cell (World.block_lt_of_cell? w _ An)).trans An; replace Cl := eq_true Cl; replace Cm := eq_true Cm; refine start_ (n := 24) (S := fun w' => w'.cell? ⟨Aq, 0, none⟩ = some (.int .i64 Ao) ∧ w'.cell? ⟨Aq, 1, none⟩ = some (.int .i64 Ap) ∧ w'.cell? ⟨Aq, 2, none⟩ = some (.slice (some ad146) Af.length Ba) ∧ w'.cell? (ad143.add (Aa).toNat) = some (.int .i64 (rd Ac Aa)) ∧ w'.cell? ⟨Au, ((rd Ac Aa)).toNat, none⟩ = some (.int .i64 (rd Ar (rd Ac Aa))) ∧ w'.cell? (ad143.add (Aa).toNat) = some (.int .i64 (rd Ac Aa)) ∧ w'.cell? (ad146.add ((rd Ac Aa)).toNat) = some (.int .i64 (rd Af (rd Ac Aa))) ∧ w'.cell? (ad146.add (Ae).toNat) = some (.int .i64 (rd Af Ae))) (ds := []) #[false, false, false, false, false, false, false, false, false, false, false, false, false, false, false, false, false, false, false, false, false, false, false, false] Z61 rfl rfl ⟨(blk_cell Ab.out 0).trans rfl, (blk_cell Ab.out 1).trans rfl, (blk_cell Ab.out 2).trans rfl, Aw, Aj, Bb, ((HB.out.cell (World.block_lt_of_cell? w _ hw146_0)).trans hw146_0), ((HB.out.cell (World.block_lt_of_cell? w _ hw147_0)).trans hw147_0)⟩ (fun hHeld => ?_); refine with_tabW spec_l12Areas.tab20 spec_l12Areas.bits20 (fun HT_ HW_ => ?_)
                        generalize wr.drew = Fv at Ad Al Ah Ab HB Aw Aj Bb Am An hHeld ⊢
                        refine puR 0 58 #[true, false, false, false, false, false, false, false, false, false, false, false, false, false, false, false, false, false, false, false, false, false, false, false] HT_ rfl rfl ?_; refine puR 1 59 #[true, true, false, false, false, false, false, false, false, false, false, false, false, false, false, false, false, false, false, false, false, false, false, false] HT_ rfl rfl ?_; refine puR 2 60 #[true, true, true, false, false, false, false, false, false, false, false, false, false, false, false, false, false, false, false, false, false, false, false, false] HT_ rfl rfl ?_; refine puR 3 61 #[true, true, true, true, false, false, false, false, false, false, false, false, false, false, false, false, false, false, false, false, false, false, false, false] HT_ rfl rfl ?_; refine taR 4 62 #[true, true, true, true, true, false, false, false, false, false, false, false, false, false, false, false, false, false, false, false, false, false, false, false] HT_ HW_ hHeld rfl rfl ?_; refine puR 5 63 #[true, true, true, true, true, true, false, false, false, false, false, false, false, false, false, false, false, false, false, false, false, false, false, false] HT_ rfl rfl ?_; refine taR 6 64 #[true, true, true, true, true, true, true, false, false, false, false, false, false, false, false, false, false, false, false, false, false, false, false, false] HT_ HW_ hHeld rfl rfl ?_; refine puR 7 65 #[true, true, true, true, true, true, true, true, false, false, false, false, false, false, false, false, false, false, false, false, false, false, false, false] HT_ rfl rfl ?_; refine puR 8 66 #[true, true, true, true, true, true, true, true, true, false, false, false, false, false, false, false, false, false, false, false, false, false, false, false] HT_ rfl rfl ?_; refine puR 9 67 #[true, true, true, true, true, true, true, true, true, true, false, false, false, false, false, false, false, false, false, false, false, false, false, false] HT_ rfl rfl ?_; refine puR 11 69 #[true, true, true, true, true, true, true, true, true, true, false, true, false, false, false, false, false, false, false, false, false, false, false, false] HT_ rfl rfl ?_; refine puR 12 70 #[true, true, true, true, true, true, true, true, true, true, false, true, true, false, false, false, false, false, false, false, false, false, false, false] HT_ rfl rfl ?_; refine puR 13 71 #[true, true, true, true, true, true, true, true, true, true, false, true, true, true, false, false, false, false, false, false, false, false, false, false] HT_ rfl rfl ?_; refine puR 17 75 #[true, true, true, true, true, true, true, true, true, true, false, true, true, true, false, false, false, true, false, false, false, false, false, false] HT_ rfl rfl ?_; refine puR 19 77 #[true, true, true, true, true, true, true, true, true, true, false, true, true, true, false, false, false, true, false, true, false, false, false, false] HT_ rfl rfl ?_; refine taR 10 68 #[true, true, true, true, true, true, true, true, true, true, true, true, true, true, false, false, false, true, false, true, false, false, false, false] HT_ HW_ hHeld rfl rfl ?_; refine taR 14 72 #[true, true, true, true, true, true, true, true, true, true, true, true, true, true, true, false, false, true, false, true, false, false, false, false] HT_ HW_ hHeld rfl rfl ?_; refine puR 15 73 #[true, true, true, true, true, true, true, true, true, true, true, true, true, true, true, true, false, true, false, true, false, false, false, false] HT_ rfl rfl ?_; refine taR 16 74 #[true, true, true, true, true, true, true, true, true, true, true, true, true, true, true, true, true, true, false, true, false, false, false, false] HT_ HW_ hHeld rfl rfl ?_; refine taR 18 76 #[true, true, true, true, true, true, true, true, true, true, true, true, true, true, true, true, true, true, true, true, false, false, false, false] HT_ HW_ hHeld rfl rfl ?_; refine puR 20 78 #[true, true, true, true, true, true, true, true, true, true, true, true, true, true, true, true, true, true, true, true, true, false, false, false] HT_ rfl rfl ?_; refine taR 21 79 #[true, true, true, true, true, true, true, true, true, true, true, true, true, true, true, true, true, true, true, true, true, true, false, false] HT_ HW_ hHeld rfl rfl ?_; refine puR 22 80 #[true, true, true, true, true, true, true, true, true, true, true, true, true, true, true, true, true, true, true, true, true, true, true, false] HT_ rfl rfl ?_; refine puR 23 81 #[true, true, true, true, true, true, true, true, true, true, true, true, true, true, true, true, true, true, true, true, true, true, true, true] HT_ rfl rfl ?_; refine done_ (done_of HT_.out Z61) ?_
                        try go_wp2
                        (try simp only [← Ai])
                        go_roundg k4
                        case measure => have := HK1.out; have := HK2.out; have := HK3.out; have := HK4.out; omega
                        case rel => exact ⟨(Ar), (Bh), (wrap64 (Aa + 1)), Z14, H', ⟨Z162⟩, ⟨Z163⟩, ⟨Z164⟩, ⟨Z135⟩, ⟨Z107⟩, ⟨Z34⟩⟩
                      ·rw [if_neg D6] at H
                       exact absurd H (by simp)
                     ·rw [if_neg D5] at H
                      exact absurd H (by simp)
                    ·rw [if_neg D4] at H
                     exact absurd H (by simp)
                   ·rw [if_neg De] at H
                    have c30b0 : decide ((rd Ar (rd Ac Aa)) < 0) = false := decide_eq_false De; clear De; have H' := Aside0.mk H; clear H; obtain ⟨Fi, Fj, Ep⟩ := Kd.R_slice Ah.out; subst Ep
                    try go_wp2
                    replace Ad := aM (Kd.R_drew Ad.out); replace Al := aM (Kd.R_drew Al.out); replace Ah := aM (Kd.R_drew Ah.out); replace Ab := aM (blk_drew Ab.out); replace HB := aM (below_drew1 HB.out); have Bi : 0 ≤ (Aa : Int) := of_decide_eq_true Z3; have Bj : Aa < (Ac.length : Int) := of_decide_eq_true Z3; obtain ⟨ad143, e143, Aw⟩ := Kd.at_int (Kd.R_reads' Ah.out).2.2 Aa Bi Bj; cases e143; replace Bi := eq_true Bi; replace Bj := eq_true Bj; have Bk : 0 ≤ ((rd Ac Aa) : Int) := of_decide_eq_true Z3; have Bl : (rd Ac Aa) < (Ar.length : Int) := of_decide_eq_true Z3; obtain ⟨ad144, e144, Aj⟩ := Kd.at_int (Kd.R_reads' Ad.out).2.2 (rd Ac Aa) Bk Bl; obtain rfl : (⟨Au, 0, none⟩ : Addr) = ad144 := (by injection e144)
                    (first | simp only [add_plain] at Aj | simp only [add_at] at Aj | simp only [Addr.add, Nat.zero_add] at Aj | skip)
                    replace Bk := eq_true Bk; replace Bl := eq_true Bl; refine start_ (n := 24) (S := fun w' => w'.cell? (ad143.add (Aa).toNat) = some (.int .i64 (rd Ac Aa)) ∧ w'.cell? ⟨Au, ((rd Ac Aa)).toNat, none⟩ = some (.int .i64 (rd Ar (rd Ac Aa)))) (ds := []) #[false, false, false, false, false, false, false, false, false, false, false, false, false, false, false, false, false, false, false, false, false, false, false, false] Z61 rfl rfl ⟨Aw, Aj⟩ (fun hHeld => ?_); refine with_tabW spec_l12Areas.tab20 spec_l12Areas.bits20 (fun HT_ HW_ => ?_)
                    generalize wr.drew = Fw at Ad Al Ah Ab HB Aw Aj hHeld ⊢
                    refine puR 0 58 #[true, false, false, false, false, false, false, false, false, false, false, false, false, false, false, false, false, false, false, false, false, false, false, false] HT_ rfl rfl ?_; refine puR 1 59 #[true, true, false, false, false, false, false, false, false, false, false, false, false, false, false, false, false, false, false, false, false, false, false, false] HT_ rfl rfl ?_; refine puR 2 60 #[true, true, true, false, false, false, false, false, false, false, false, false, false, false, false, false, false, false, false, false, false, false, false, false] HT_ rfl rfl ?_; refine puR 3 61 #[true, true, true, true, false, false, false, false, false, false, false, false, false, false, false, false, false, false, false, false, false, false, false, false] HT_ rfl rfl ?_; refine taR 4 62 #[true, true, true, true, true, false, false, false, false, false, false, false, false, false, false, false, false, false, false, false, false, false, false, false] HT_ HW_ hHeld rfl rfl ?_; refine puR 5 63 #[true, true, true, true, true, true, false, false, false, false, false, false, false, false, false, false, false, false, false, false, false, false, false, false] HT_ rfl rfl ?_; refine taR 6 64 #[true, true, true, true, true, true, true, false, false, false, false, false, false, false, false, false, false, false, false, false, false, false, false, false] HT_ HW_ hHeld rfl rfl ?_; refine puR 7 65 #[true, true, true, true, true, true, true, true, false, false, false, false, false, false, false, false, false, false, false, false, false, false, false, false] HT_ rfl rfl ?_; refine puR 8 66 #[true, true, true, true, true, true, true, true, true, false, false, false, false, false, false, false, false, false, false, false, false, false, false, false] HT_ rfl rfl ?_; refine pure_ (i := 9) (N := some 67) (v := undef) (a' := ?_) #[true, true, true, true, true, true, true, true, true, true, false, false, false, false, false, false, false, false, false, false, false, false, false, false] rfl rfl (any_of HT_.out Z61) (fun _ _ _ h => h) (Or.inr ⟨by rfl, rfl⟩) ?_ ?_
                    rotate_left
                    ·exact Z32
                    refine pure_ (i := 10) (N := some 68) (v := undef) (a' := ?_) #[true, true, true, true, true, true, true, true, true, true, true, false, false, false, false, false, false, false, false, false, false, false, false, false] rfl rfl (any_of HT_.out Z61) (fun _ _ _ h => h) (Or.inr ⟨by rfl, rfl⟩) ?_ ?_
                    rotate_left
                    ·exact Z32
                    refine pure_ (i := 11) (N := some 69) (v := undef) (a' := ?_) #[true, true, true, true, true, true, true, true, true, true, true, true, false, false, false, false, false, false, false, false, false, false, false, false] rfl rfl (any_of HT_.out Z61) (fun _ _ _ h => h) (Or.inr ⟨by rfl, rfl⟩) ?_ ?_
                    rotate_left
                    ·exact Z32
                    refine pure_ (i := 12) (N := some 70) (v := undef) (a' := ?_) #[true, true, true, true, true, true, true, true, true, true, true, true, true, false, false, false, false, false, false, false, false, false, false, false] rfl rfl (any_of HT_.out Z61) (fun _ _ _ h => h) (Or.inr ⟨by rfl, rfl⟩) ?_ ?_
                    rotate_left
                    ·exact Z32
                    refine pure_ (i := 13) (N := some 71) (v := undef) (a' := ?_) #[true, true, true, true, true, true, true, true, true, true, true, true, true, true, false, false, false, false, false, false, false, false, false, false] rfl rfl (any_of HT_.out Z61) (fun _ _ _ h => h) (Or.inr ⟨by rfl, rfl⟩) ?_ ?_
                    rotate_left
                    ·exact Z32
                    refine pure_ (i := 14) (N := some 72) (v := undef) (a' := ?_) #[true, true, true, true, true, true, true, true, true, true, true, true, true, true, true, false, false, false, false, false, false, false, false, false] rfl rfl (any_of HT_.out Z61) (fun _ _ _ h => h) (Or.inr ⟨by rfl, rfl⟩) ?_ ?_
                    rotate_left
                    ·exact Z32
                    refine pure_ (i := 15) (N := some 73) (v := undef) (a' := ?_) #[true, true, true, true, true, true, true, true, true, true, true, true, true, true, true, true, false, false, false, false, false, false, false, false] rfl rfl (any_of HT_.out Z61) (fun _ _ _ h => h) (Or.inr ⟨by rfl, rfl⟩) ?_ ?_
                    rotate_left
                    ·exact Z32
                    refine pure_ (i := 16) (N := some 74) (v := undef) (a' := ?_) #[true, true, true, true, true, true, true, true, true, true, true, true, true, true, true, true, true, false, false, false, false, false, false, false] rfl rfl (any_of HT_.out Z61) (fun _ _ _ h => h) (Or.inr ⟨by rfl, rfl⟩) ?_ ?_
                    rotate_left
                    ·exact Z32
                    refine pure_ (i := 17) (N := some 75) (v := undef) (a' := ?_) #[true, true, true, true, true, true, true, true, true, true, true, true, true, true, true, true, true, true, false, false, false, false, false, false] rfl rfl (any_of HT_.out Z61) (fun _ _ _ h => h) (Or.inr ⟨by rfl, rfl⟩) ?_ ?_
                    rotate_left
                    ·exact Z32
                    refine pure_ (i := 18) (N := some 76) (v := undef) (a' := ?_) #[true, true, true, true, true, true, true, true, true, true, true, true, true, true, true, true, true, true, true, false, false, false, false, false] rfl rfl (any_of HT_.out Z61) (fun _ _ _ h => h) (Or.inr ⟨by rfl, rfl⟩) ?_ ?_
                    rotate_left
                    ·exact Z32
                    refine pure_ (i := 19) (N := some 77) (v := undef) (a' := ?_) #[true, true, true, true, true, true, true, true, true, true, true, true, true, true, true, true, true, true, true, true, false, false, false, false] rfl rfl (any_of HT_.out Z61) (fun _ _ _ h => h) (Or.inr ⟨by rfl, rfl⟩) ?_ ?_
                    rotate_left
                    ·exact Z32
                    refine pure_ (i := 20) (N := some 78) (v := undef) (a' := ?_) #[true, true, true, true, true, true, true, true, true, true, true, true, true, true, true, true, true, true, true, true, true, false, false, false] rfl rfl (any_of HT_.out Z61) (fun _ _ _ h => h) (Or.inr ⟨by rfl, rfl⟩) ?_ ?_
                    rotate_left
                    ·exact Z32
                    refine pure_ (i := 21) (N := some 79) (v := undef) (a' := ?_) #[true, true, true, true, true, true, true, true, true, true, true, true, true, true, true, true, true, true, true, true, true, true, false, false] rfl rfl (any_of HT_.out Z61) (fun _ _ _ h => h) (Or.inr ⟨by rfl, rfl⟩) ?_ ?_
                    rotate_left
                    ·exact Z32
                    refine pure_ (i := 22) (N := some 80) (v := undef) (a' := ?_) #[true, true, true, true, true, true, true, true, true, true, true, true, true, true, true, true, true, true, true, true, true, true, true, false] rfl rfl (any_of HT_.out Z61) (fun _ _ _ h => h) (Or.inr ⟨by rfl, rfl⟩) ?_ ?_
                    rotate_left
                    ·exact Z32
                    refine puR 23 81 #[true, true, true, true, true, true, true, true, true, true, true, true, true, true, true, true, true, true, true, true, true, true, true, true] HT_ rfl rfl ?_; refine done_ (done_of HT_.out Z61) ?_
                    try go_wp2
                    (try simp only [← Ai])
                    go_roundg k4
                    case measure => have := HK1.out; have := HK2.out; have := HK3.out; have := HK4.out; omega
                    case rel => exact ⟨(Ar), (Bh), (wrap64 (Aa + 1)), Z14, H', ⟨Z162⟩, ⟨Z163⟩, ⟨Z164⟩, ⟨Z135⟩, ⟨Z107⟩, ⟨Z34⟩⟩
                  ·rw [if_neg D3] at H
                   exact absurd H (by simp)
                 ·rw [if_neg D2] at H
                  exact absurd H (by simp)
                ·rw [if_neg D1] at H
                 exact absurd H (by simp)
               ·rw [if_neg Dd] at H
                have c26b0 : decide (Aa < (Ac.length : Int)) = false := decide_eq_false Dd
                (try simp only [Ag, Ai] at c26b0)
                clear Dd; have H' := Aside0.mk H; clear H; obtain ⟨Fk, Fl, Er⟩ := Kd.R_slice Ah.out; subst Er
                go_wp2
                (try simp only [← Ag, ← Ai])
                go_roundg k4
                case measure => have := HK1.out; have := HK2.out; have := HK3.out; have := HK4.out; omega
                case rel => exact ⟨(Ar), (Bh), (wrap64 (Ax + 1)), Z14, H', ⟨Z162⟩, ⟨by (try simp only [Ag]); (try simp only [Ai]); (with_reducible repeat (first | apply Kd.R_alloc | apply Kd.R_drewN | apply Kd.R_drew)); exact Kd.R_mono Ad.out (fun _ hk => hk.1)⟩, ⟨by (try simp only [Ag]); (try simp only [Ai]); (with_reducible repeat (first | apply Kd.R_alloc | apply Kd.R_drewN | apply Kd.R_drew)); exact Kd.R_mono Al.out (fun _ hk => hk.1)⟩, ⟨Z107⟩, ⟨Z34⟩⟩
            ·rw [if_neg Dt] at H
             exact absurd H (by simp)
           ·rw [if_neg C4] at H
            have c20b0 : decide (Ax < (Bd.length : Int)) = false := decide_eq_false C4
            (try simp only [Ag] at c20b0)
            clear C4; have H' := Aside0.mk H; clear H; obtain ⟨Fm, Fo, Es⟩ := Kd.R_slice Al.out; subst Es
            go_wp2
            (try simp only [← Ag])
            go_roundg k3
            case measure => have := HK1.out; have := HK2.out; have := HK3.out; omega
            case rel => exact ⟨(Bo), (wrap64 (Ay + 1)), (wrap64 (Ae + 1)), Z14, Z14, H', ⟨Z168⟩, ⟨by (try simp only [Ag]); (with_reducible repeat (first | apply Kd.R_alloc | apply Kd.R_drewN | apply Kd.R_drew)); exact Kd.R_mono Ad.out (fun _ hk => trivial)⟩, ⟨Z180⟩, ⟨Z34⟩⟩
       ·rw [if_neg Dc] at H
        exact absurd H (by simp)
      ·rw [if_neg Cx] at H
       have c10b0 : decide (Ae < (Az.length : Int)) = false := decide_eq_false Cx; clear Cx
       simp only [Option.some.injEq, Prod.mk.injEq] at H
       obtain ⟨rfl, rfl⟩ := H; obtain ⟨Fp, Fq, Et⟩ := Kd.R_slice Ad.out; subst Et
       go_wp2
       go_ret2
       exact ⟨_, Z10, Z35, Z34⟩
end Go.Proofs.Ytaadbpibmlnncaa.H
