-- by wip/pack.py of this repo
import Derived.Test.YtaadbpibmlnncaaZ05Hx0
import Derived.Test.YtaadbpibmlnncaaZ05Hx1
import Derived.Test.YtaadbpibmlnncaaZ05WLast
import Derived.Test.YtaadbpibmlnncaaZ05WMore
import Derived.Test.YtaadbpibmlnncaaZ05WRepsOne
import Derived.Test.YtaadbpibmlnncaaZ05WTab
import Derived.Test.YtaadbpibmlnncaaZ05WWords
import Derived.Test.YtaadbpibmlnncaaZ05Short
namespace Go.Proofs.Ytaadbpibmlnncaa.H
open Go.RowKit Go.Proofs.YtaadbpibmlnncaaW.PrintWords Go.Proofs.YtaadbpibmlnncaaW.PrintLast Go.Proofs.YtaadbpibmlnncaaW.PrintMore
attribute [local go_sem] max2_int min2_int max_two min_two max_three min_three max_four min_four
set_option maxHeartbeats 8000000
set_option maxRecDepth 100000
set_option linter.unusedVariables false
set_option linter.unusedSimpArgs false
mutual
def spec_l12Areas.l0 : Nat → List Int → Int → Int → Int → List Int → Option (List Int × Int)
 | 0, _, _, _, _, _ => none
 | k + 1, x4, x5, x139000, x139001, x139002 => if x5 < (x139002.length : Int) then (if x4.length < 17592186044416 then (spec_l12Areas.l0 k (x4 ++ [(-1)]) (wrap64 (x5 + 1)) x139000 x139001 x139002) else (none)) else (spec_l12Areas.l1 k x4 0 0 x139000 x139001 x139002)
def spec_l12Areas.l1 : Nat → List Int → Int → Int → Int → Int → List Int → Option (List Int × Int)
 | 0, _, _, _, _, _, _ => none
 | k + 1, x4, x6, x7, x139000, x139001, x139002 => if x7 < (x4.length : Int) then (if 0 ≤ x7 then (if (rd x4 x7) ≥ 0 then (spec_l12Areas.l1 k x4 x6 (wrap64 (x7 + 1)) x139000 x139001 x139002) else (spec_l12Areas.l2 k (x4.set (x7 : Int).toNat x6) x6 x7 (([x7] : List Int)) 0 x139000 x139001 x139002)) else (none)) else (some (x4, x6))
def spec_l12Areas.l2 : Nat → List Int → Int → Int → List Int → Int → Int → Int → List Int → Option (List Int × Int)
 | 0, _, _, _, _, _, _, _, _ => none
 | k + 1, x4, x6, x7, x8, x9, x139000, x139001, x139002 => if x9 < (x8.length : Int) then (if 0 ≤ x9 then ((spec_l12Next.f k x139000 x139001 x139002 (rd x8 x9)).bind fun t151 => (spec_l12Areas.l3 k x4 x6 x7 x8 x9 t151 0 x139000 x139001 x139002)) else (none)) else (spec_l12Areas.l1 k x4 (wrap64 (x6 + 1)) (wrap64 (x7 + 1)) x139000 x139001 x139002)
def spec_l12Areas.l3 : Nat → List Int → Int → Int → List Int → Int → List Int → Int → Int → Int → List Int → Option (List Int × Int)
 | 0, _, _, _, _, _, _, _, _, _, _ => none
 | k + 1, x4, x6, x7, x8, x9, x10, x11, x139000, x139001, x139002 => if x11 < (x10.length : Int) then (if 0 ≤ x11 then (if 0 ≤ (rd x10 x11) then (if (rd x10 x11) < (x4.length : Int) then (if (rd x4 (rd x10 x11)) < 0 then (if (rd x10 x11) < (x139002.length : Int) then (if 0 ≤ x7 then (if x7 < (x139002.length : Int) then (if (rd x139002 (rd x10 x11)) = (rd x139002 x7) then (if x8.length < 17592186044416 then (spec_l12Areas.l3 k (x4.set ((rd x10 x11) : Int).toNat x6) x6 x7 (x8 ++ [rd x10 x11]) x9 x10 (wrap64 (x11 + 1)) x139000 x139001 x139002) else (none)) else (spec_l12Areas.l3 k x4 x6 x7 x8 x9 x10 (wrap64 (x11 + 1)) x139000 x139001 x139002)) else (none)) else (none)) else (none)) else (spec_l12Areas.l3 k x4 x6 x7 x8 x9 x10 (wrap64 (x11 + 1)) x139000 x139001 x139002)) else (none)) else (none)) else (none)) else (spec_l12Areas.l2 k x4 x6 x7 x8 (wrap64 (x9 + 1)) x139000 x139001 x139002)
end
def spec_l12Areas.f (k : Nat) (a0_0 : Int) (a0_1 : Int) (l0_2 : List Int) : Option (List Int × Int) := spec_l12Areas.l0 k (([] : List Int)) 0 a0_0 a0_1 l0_2
def spec_l12Areas.T20 : Bool × List (List Nat × List Nat) := (true, [([], []), ([], []), ([], []), ([1, 2], [1, 2]), ([3], [3]), ([0, 4], [0, 4]), ([5], [5]), ([6], [6]), ([7], [7]), ([8], [8]), ([9, 8], [8, 9]), ([8], [8]), ([8], [8]), ([11, 12, 8], [8, 11, 12]), ([13, 8], [8, 13]), ([10, 14, 8], [8, 10, 14]), ([15, 8], [8, 15]), ([8], [8]), ([17, 8], [8, 17]), ([8], [8]), ([18, 19, 8], [8, 18, 19]), ([20, 8], [8, 20]), ([16, 21, 8], [8, 16, 21]), ([8, 22], [8, 22])])
def spec_l12Areas.B20 : List Nat := [0, 0, 0, 6, 14, 31, 63, 127, 255, 511, 1023, 511, 511, 6655, 14847, 32767, 65535, 511, 131583, 511, 918015, 1966591, 4194303, 8388607]
theorem spec_l12Areas.tab20 : rtab .any (opsOf Try.f44 20) = spec_l12Areas.T20 := by kernel_rfl
theorem spec_l12Areas.bits20 : waitsOk spec_l12Areas.T20.2 spec_l12Areas.B20 = true := by kernel_rfl
theorem spec_l12Areas.calls (k : Nat) (Ao : Int) (Ap : Int) (Bf : Option Addr) (Az : Nat) (Af : List Int) (r1 : List Int) (r2 : Int) (w : World) (Cs : Kd.C (Kd.int .i64) w Bf Af.length Af) (Ct : Af.length ≤ Az) (h : spec_l12Areas.f k Ao Ap Af = some (r1, r2)) :
  Calls Try.prog 44 #[.agg #[.int .i64 Ao, .int .i64 Ap, .slice Bf Af.length Az]] w fun e w' => ∃ v0_ : Value, e = .returned (.tuple #[v0_, .int .i64 r2]) ∧ Kd.R (Kd.int .i64) 3 w' w.heap.size (fun _ => True) v0_ r1 ∧ Below w.heap.size w w' := by
 have hu28 := Try.underlying28; have Bp := Aside0.mk Cs; have Dd := Aside0.mk Ct; clear Cs Ct; have HB := aM (Below.refl w.heap.size w); have H : (spec_l12Areas.l0 k (([] : List Int)) 0 Ao Ap Af) = some (r1, r2) := h; clear h; obtain ⟨De, Bq⟩ : ∃ y_ : List Int, y_ = (([] : List Int)) := ⟨_, rfl⟩
 replace H : (spec_l12Areas.l0 k De 0 Ao Ap Af) = some (r1, r2) := by first | (rw [Bq]; with_reducible exact H) | (have H2_ := (Option.bind_some _ _).symm.trans H; rw [Bq]; with_reducible exact H2_) | (have H2_ := (Option.bind_some _ _).symm.trans H; with_reducible exact H2_) | with_reducible exact H | (rw [Bq]; exact H) | exact H
 have Cu := Aside0.mk Bq; clear Bq; have H' := Aside0.mk H; clear H
 go_enter Try.func44, Try.ntmps44
 go_wp2_with (first | ((with_reducible refine gate_dst (N := 1) rfl ?_); refine bxE 1 #[.int .i64 Ao, .int .i64 Ap, .slice Bf Af.length Az] 28 ?_; intro Aq hg w2 hbox hb; have Ab := aM (hbox); have Er := gwS hg Z0; have Ak := gwS hg Z0; replace HB := hbS Z0 hb; clear hb hbox hg) | ((with_reducible refine gate_dst (N := 12) rfl ?_); refine Kd.R_lit (Kd.int .i64) _ 3 ?hg (N := 12) ?hd (xs := ([] : List Int)) (inner := []) (ok := fun _ => True) (okp := fun _ => True) ?hr ?hp (fun _ hk => hk) trivial (Below.refl _ _) (Nat.le_refl _) (by simp) ?_; (case hd => rfl); (case hg => rfl); (case hr => first | (go_simp; done) | (go_simp; rfl)); (case hp => exact (Reps.none _ _)); intro Et w3 Df hb hg_ hnew_; clear hg_ hnew_; (first | rw [← Cu.out] at Df | (simp only [Int.reduceToNat] at Df; rw [← Cu.out] at Df)); have Dg := aM (Kd.R_lower Df (below_size Z10)); replace Ab := bkB Ab hb; replace HB := hbS Z10 hb; clear hb Df))
 go_loopg [4, 5] k (fun kq v4 v5 w' => ∃ (Bx : List Int) (Br : Int), v5 = .int .i64 Br ∧ Aside0 (spec_l12Areas.l0 kq Bx Br Ao Ap Af = some (r1, r2)) ∧ Aside0 (kq ≤ k) ∧ Aside0 (Kd.R (Kd.int .i64) 3 w' w.heap.size (fun _ => True) v4 Bx) ∧ Aside0 (w'.heap[Aq]? = some (.cells #[.int .i64 Ao, .int .i64 Ap, (.slice Bf Af.length Az)] 28 (0, 0))) ∧ Aside0 (Below w.heap.size w w'))
 case atStart => exact ⟨(De), (0), Z5, H', ⟨Nat.le_refl _⟩, ⟨by (with_reducible repeat (first | apply Kd.R_alloc | apply Kd.R_drewN | apply Kd.R_drew)); exact Dg.out⟩, ⟨Z7⟩, ⟨Z10⟩⟩
 case round =>
  clear H'; (try clear p2); (try clear c4); obtain ⟨Bx, Br, rfl, HA, HK1, Ad, Ab, HB⟩ := hrel; cases gk with
  | zero => exact absurd HA.out (by simp [spec_l12Areas.l0])
  | succ k1 =>
   have H := HA.out; clear HA
   simp only [spec_l12Areas.l0] at H
   by_cases c5 : Br < (Af.length : Int)
   ·rw [if_pos c5] at H
    have c5b0 : decide (Br < (Af.length : Int)) = true := decide_eq_true c5; clear c5
    by_cases c6 : Bx.length < 17592186044416
    ·rw [if_pos c6] at H
     have LMc6 := Aside0.mk c6; clear c6; obtain ⟨Dh, Bs⟩ : ∃ y_ : List Int, y_ = (Bx ++ [(-1)]) := ⟨_, rfl⟩
     replace H : (spec_l12Areas.l0 k1 Dh (wrap64 (Br + 1)) Ao Ap Af) = some (r1, r2) := by first | (rw [Bs]; with_reducible exact H) | (have H2_ := (Option.bind_some _ _).symm.trans H; rw [Bs]; with_reducible exact H2_) | (have H2_ := (Option.bind_some _ _).symm.trans H; with_reducible exact H2_) | with_reducible exact H | (rw [Bs]; exact H) | exact H
     have Di := Aside0.mk Bs; clear Bs; have H' := Aside0.mk H; clear H; obtain ⟨Bz, B0, B2⟩ := bz3 Ab; obtain ⟨B4, B5, B6⟩ := fz3 Ab
     go_wp2_with (first | ((with_reducible refine gate_builtin (b := .append) (xs := #[.tmp 20, .tmp 21]) rfl ?_); at_builtin; refine Kd.R_append (Kd.int .i64) (w0 := w) w.heap.size rfl (.tmp 20) (.tmp 21) 22 3 (.int .i64 0) 8 rfl Try.underlying22 info3 rfl (by decide) (by omega) u4 Bx (-1) [.int .i64 (-1)] (fun _ => True) (fun _ => False) rfl rfl ?aP (fun _ hk => hk.elim) ?aF ?aO ?aB ?aS ?aL ?_; (case aP => exact rfl); (case aB => exact Z10); (case aF => exact (fun _ _ => trivial)); (case aO => exact Z14); (case aS => exact (below_size Z10)); (case aL => have := LMc6.out; omega); intro Eu w8 ho hb hg hat; rw [← Di.out] at ho; replace Ab := aM (blk_grown (g := Aq) (o := .cells #[.int .i64 Ao, .int .i64 Ap, .slice Bf Af.length Az] 28 (0, 0)) Z7 hg (Kd.R_ne Ad.out Ab.out (by decide))); replace HB := aM (hb); have Dj := aM (ho); clear Ad; clear ho hb hg hat))
     go_roundg k1
     case measure => have := HK1.out; omega
     case rel => exact ⟨(Dh), (wrap64 (Br + 1)), Z5, H', ⟨Z62⟩, ⟨by (with_reducible repeat (first | apply Kd.R_alloc | apply Kd.R_drewN | apply Kd.R_drew)); exact Dj.out⟩, ⟨Z7⟩, ⟨Z10⟩⟩
    ·rw [if_neg c6] at H
     exact absurd H (by simp)
   ·rw [if_neg c5] at H
    have c5b0 : decide (Br < (Af.length : Int)) = false := decide_eq_false c5; clear c5; have H' := Aside0.mk H; clear H; obtain ⟨B7, Ca, Cb⟩ := bz3 Ab; obtain ⟨Cc, Cd, Ce⟩ := fz3 Ab
    go_wp2
    go_loopg [6, 7] k1 (fun kq v6 v7 w' => ∃ (Ay : List Int) (Ax : Int) (Ae : Int), v6 = .int .i64 Ax ∧ v7 = .int .i64 Ae ∧ Aside0 (spec_l12Areas.l1 kq Ay Ax Ae Ao Ap Af = some (r1, r2)) ∧ Aside0 (kq ≤ k1) ∧ Aside0 (Kd.R (Kd.int .i64) 3 w' w.heap.size (fun _ => True) u4 Ay) ∧ Aside0 (w'.heap[Aq]? = some (.cells #[.int .i64 Ao, .int .i64 Ap, (.slice Bf Af.length Az)] 28 (0, 0))) ∧ Aside0 (Below w.heap.size w w'))
    case atStart => exact ⟨(Bx), (0), (0), Z5, Z5, H', ⟨Nat.le_refl _⟩, ⟨Z14⟩, ⟨Z7⟩, ⟨Z10⟩⟩
    case round =>
     clear H'; (try clear p2); (try clear c4); (try clear c5); (try clear c5b0); (try clear c6); (try clear p6); (try clear Bz); (try clear B0); (try clear B2); (try clear B7); (try clear Ca); (try clear Cb); (try clear B4); (try clear B5); (try clear B6); (try clear Cc); (try clear Cd); (try clear Ce); (try clear p2); obtain ⟨Ay, Ax, Ae, rfl, rfl, HA, HK2, Ad, Ab, HB⟩ := hrel; cases gk with
     | zero => exact absurd HA.out (by simp [spec_l12Areas.l1])
     | succ k2 =>
      have H := HA.out; clear HA
      simp only [spec_l12Areas.l1] at H
      by_cases Cv : Ae < (Ay.length : Int)
      ·rw [if_pos Cv] at H
       have c10b0 : decide (Ae < (Ay.length : Int)) = true := decide_eq_true Cv; clear Cv
       by_cases Da : 0 ≤ Ae
       ·rw [if_pos Da] at H
        have c11b0 : decide (0 ≤ Ae) = true := decide_eq_true Da; clear Da
        by_cases Cw : (rd Ay Ae) ≥ 0
        ·rw [if_pos Cw] at H
         have c12b0 : decide (0 ≤ (rd Ay Ae)) = true := decide_eq_true Cw; clear Cw; have H' := Aside0.mk H; clear H; obtain ⟨Ew, Ex, D8⟩ := Kd.R_slice Ad.out; subst D8; have Bl : 0 ≤ (Ae : Int) := of_decide_eq_true Z3; have Bm : Ae < (Ay.length : Int) := of_decide_eq_true Z3; obtain ⟨ad145, e145, Bd⟩ := Kd.at_int (Kd.R_reads' Ad.out).2.2 Ae Bl Bm; cases e145; replace Bl := eq_true Bl; replace Bm := eq_true Bm
         go_wp2
         go_roundg k2
         case measure => have := HK1.out; have := HK2.out; omega
         case rel => exact ⟨(Ay), (Ax), (wrap64 (Ae + 1)), Z5, Z5, H', ⟨Z96⟩, ⟨Z14⟩, ⟨Z7⟩, ⟨Z10⟩⟩
        ·rw [if_neg Cw] at H
         have c12b0 : decide (0 ≤ (rd Ay Ae)) = false := decide_eq_false Cw; clear Cw; obtain ⟨Cn, Bt⟩ : ∃ y_ : List Int, y_ = (Ay.set (Ae : Int).toNat Ax) := ⟨_, rfl⟩
         replace H : (spec_l12Areas.l2 k2 Cn Ax Ae (([Ae] : List Int)) 0 Ao Ap Af) = some (r1, r2) := by first | (rw [Bt]; with_reducible exact H) | (have H2_ := (Option.bind_some _ _).symm.trans H; rw [Bt]; with_reducible exact H2_) | (have H2_ := (Option.bind_some _ _).symm.trans H; with_reducible exact H2_) | with_reducible exact H | (rw [Bt]; exact H) | exact H
         have Dk := Aside0.mk Bt; clear Bt; obtain ⟨Dl, Bu⟩ : ∃ y_ : List Int, y_ = (([Ae] : List Int)) := ⟨_, rfl⟩
         replace H : (spec_l12Areas.l2 k2 Cn Ax Ae Dl 0 Ao Ap Af) = some (r1, r2) := by first | (rw [Bu]; with_reducible exact H) | (have H2_ := (Option.bind_some _ _).symm.trans H; rw [Bu]; with_reducible exact H2_) | (have H2_ := (Option.bind_some _ _).symm.trans H; with_reducible exact H2_) | with_reducible exact H | (rw [Bu]; exact H) | exact H
         have Cx := Aside0.mk Bu; clear Bu; have H' := Aside0.mk H; clear H; obtain ⟨Ey, Bb, D9⟩ := Kd.R_slice Ad.out; subst D9; have Bl : 0 ≤ (Ae : Int) := of_decide_eq_true Z3; have Bm : Ae < (Ay.length : Int) := of_decide_eq_true Z3; obtain ⟨ad145, e145, Bd⟩ := Kd.at_int (Kd.R_reads' Ad.out).2.2 Ae Bl Bm; cases e145; replace Bl := eq_true Bl; replace Bm := eq_true Bm; have Cy : 0 ≤ (Ae : Int) := of_decide_eq_true Z3; have Cz : (Ae : Int) < ((Ay.length : Int) : Int) := of_decide_eq_true Z3; obtain ⟨Au, Ez, Dm, Dn, gl14, cl14, HG14⟩ := Kd.R_form Ad.out (by omega)
         (first | cases Dm | (injection Dm with ea_ en_ ec_; (first | subst ea_ | (injection ea_ with ea_; subst ea_)); subst ec_; clear en_))
         have Dp := Aside0.mk Dn; have E0 := Aside0.mk HG14; clear Dn gl14 HG14
         (first | simp only [add_plain] at Bd | skip)
         obtain ⟨Cm, Ea⟩ := Kd.R_celln 0 Ad.out (Ae : Int) Cy Cz; replace Cy := eq_true Cy; replace Cz := eq_true Cz; have C0 := Kd.R_putg Ad.out (Ae : Int) Ax
         go_wp2_with (first | ((with_reducible refine gate_store (t := 3) (p := 37) rfl ?_); refine store_event (t := 3) (p := 37) (v := ?vo_w17) (w1 := (wr.setCell ⟨Au, (Ae : Int).toNat, none⟩ (.int .i64 Ax))) ?hg ?ho ?hn ?hr ?_; (case ho => rfl); (case hg => rfl); (case hn => rfl); (case hr => first | (go_simp; done) | (go_simp; rfl)); intro Eb hw; have hg : wr.grownBy Eb (some Au) := (by rw [hw]; exact C0.2); have hp_ : Kd.R (Kd.int .i64) 3 Eb w.heap.size (fun _ => True) (.slice (some ⟨Au, 0, none⟩) Ay.length Bb) Cn := (by rw [hw, Dk.out]; exact C0.1); clear C0; replace Ab := aM (blk_grown (g := Aq) (o := .cells #[.int .i64 Ao, .int .i64 Ap, .slice Bf Af.length Az] 28 (0, 0)) Z7 hg (Kd.R_ne Ad.out Ab.out (by decide))); replace Ad := aM (hp_); replace HB := aM ((by rw [hw]; exact below_set (HB.out) Dp.out : Below w.heap.size w Eb)); clear hg hw hp_) | ((with_reducible refine gate_dst (N := 39) rfl ?_); refine Kd.R_lit (Kd.int .i64) _ 3 ?hg (N := 39) ?hd (xs := ([Ae] : List Int)) (inner := [.int .i64 Ae]) (ok := fun _ => True) (okp := fun _ => True) ?hr ?hp (fun _ hk => hk) trivial (Below.refl _ _) (Nat.le_refl _) (by simp) ?_; (case hd => rfl); (case hg => rfl); (case hr => first | (go_simp; done) | (go_simp; rfl)); (case hp => exact (Reps.one (show Kd.M (Kd.int .i64) _ _ _ Ae [.int .i64 Ae] from rfl) (Reps.none _ _))); intro E1 Fl Cl hb hg_ hnew_; clear hg_ hnew_; (first | rw [← Cx.out] at Cl | (simp only [Int.reduceToNat] at Cl; rw [← Cx.out] at Cl)); have Dq := aM (Kd.R_lower (Kd.R_new' Cl (Kd.R_lt Z14)) (below_size Z10)); replace Ad := aM (Kd.R_elder' Z14 (Kd.R_base Cl) hb); replace Ab := bkB Ab hb; replace HB := hbS Z10 hb; clear hb Cl))
         go_loopg [8, 9] k2 (fun kq v8 v9 w' => ∃ (Bn : List Int) (Bc : List Int) (Aw : Int), v9 = .int .i64 Aw ∧ Aside0 (spec_l12Areas.l2 kq Bn Ax Ae Bc Aw Ao Ap Af = some (r1, r2)) ∧ Aside0 (kq ≤ k2) ∧ Aside0 (Kd.R (Kd.int .i64) 3 w' w.heap.size (fun k_ => nV k_ v8) (.slice (some ⟨Au, 0, none⟩) Ay.length Bb) Bn) ∧ Aside0 (Kd.R (Kd.int .i64) 3 w' w.heap.size (fun k_ => some k_ ≠ ((.slice (some ⟨Au, 0, none⟩) Ay.length Bb) : Value).ownBlock) v8 Bc) ∧ Aside0 (w'.heap[Aq]? = some (.cells #[.int .i64 Ao, .int .i64 Ap, (.slice Bf Af.length Az)] 28 (0, 0))) ∧ Aside0 (Below w.heap.size w w'))
         case atStart => exact ⟨(Cn), (Dl), (0), Z5, H', ⟨Nat.le_refl _⟩, ⟨by (with_reducible repeat (first | apply Kd.R_alloc | apply Kd.R_drewN | apply Kd.R_drew)); exact Kd.R_mono Ad.out (fun _ hk => hk.2)⟩, ⟨by (with_reducible repeat (first | apply Kd.R_alloc | apply Kd.R_drewN | apply Kd.R_drew)); exact Kd.R_mono Dq.out (fun _ hk => hk.2)⟩, ⟨Z7⟩, ⟨Z10⟩⟩
         case round =>
          clear H'; (try clear c1); (try clear p1); (try clear q1); (try clear E2); (try clear E3); (try clear p2); (try clear c4); (try clear c5); (try clear c5b0); (try clear c6); (try clear p6); (try clear Cv); (try clear c10b0); (try clear Da); (try clear c11b0); (try clear Cw); (try clear c12b0); (try clear Cy); (try clear Cz); (try clear Ec); (try clear Ed); (try clear Bz); (try clear B0); (try clear B2); (try clear B7); (try clear Ca); (try clear Cb); (try clear B4); (try clear B5); (try clear B6); (try clear Cc); (try clear Cd); (try clear Ce); (try clear Bd); (try clear Cm); (try clear Cy); (try clear Bl); (try clear p2); (try clear p6); (try clear Cz); (try clear Bm); obtain ⟨Bn, Bc, Aw, rfl, HA, HK3, Ad, Al, Ab, HB⟩ := hrel; have Ag := (Kd.R_reads' Ad.out).1; rw [Ag] at Ad
          (try simp only [Ag])
          (try simp only [Ag] at Ab)
          (try simp only [Ag] at Al)
          cases gk with
          | zero => exact absurd HA.out (by simp [spec_l12Areas.l2])
          | succ k3 =>
           have H := HA.out; clear HA
           simp only [spec_l12Areas.l2] at H
           by_cases C1 : Aw < (Bc.length : Int)
           ·rw [if_pos C1] at H
            have c20b0 : decide (Aw < (Bc.length : Int)) = true := decide_eq_true C1
            (try simp only [Ag] at c20b0)
            clear C1
            by_cases Dr : 0 ≤ Aw
            ·rw [if_pos Dr] at H
             have c21b0 : decide (0 ≤ Aw) = true := decide_eq_true Dr; clear Dr; replace H := Option.bind_eq_some_iff.mp H; obtain ⟨Ac, Ds, H⟩ := H; replace H : (spec_l12Areas.l3 k3 Bn Ax Ae Bc Aw Ac 0 Ao Ap Af) = some (r1, r2) := H; have E4 := Aside0.mk Ds; clear Ds; have H' := Aside0.mk H; clear H; obtain ⟨E5, E6, Ee⟩ := Kd.R_slice Al.out; subst Ee
             try go_wp2
             replace Ad := aM (Kd.R_drew Ad.out); replace Al := aM (Kd.R_drew Al.out); replace Ab := aM (blk_drew Ab.out); replace HB := aM (below_drew1 HB.out); have Co : 0 ≤ (Aw : Int) := of_decide_eq_true Z3; have Cp : Aw < (Bc.length : Int) := of_decide_eq_true Z3; obtain ⟨ad150, e150, Bo⟩ := Kd.at_int (Kd.R_reads' Al.out).2.2 Aw Co Cp; cases e150; replace Co := eq_true Co; replace Cp := eq_true Cp; refine start_ (n := 7) (S := fun w' => w'.cell? ⟨Aq, 0, none⟩ = some (.int .i64 Ao) ∧ w'.cell? ⟨Aq, 1, none⟩ = some (.int .i64 Ap) ∧ w'.cell? ⟨Aq, 2, none⟩ = some (.slice Bf Af.length Az) ∧ w'.cell? (ad150.add (Aw).toNat) = some (.int .i64 (rd Bc Aw))) (ds := []) #[false, false, false, false, false, false, false] Z35 rfl rfl ⟨(blk_cell Ab.out 0).trans rfl, (blk_cell Ab.out 1).trans rfl, (blk_cell Ab.out 2).trans rfl, Bo⟩ (fun hHeld => ?_)
             generalize wr.drew = Fm at Ad Al Ab HB Bo hHeld ⊢
             refine puK 1 47 #[false, true, false, false, false, false, false] rfl rfl ?_; refine puK 2 48 #[false, true, true, false, false, false, false] rfl rfl ?_; refine puK 3 49 #[false, true, true, true, false, false, false] rfl rfl ?_; refine taK 0 46 #[true, true, true, true, false, false, false] hHeld rfl rfl ?_; refine taK 4 50 #[true, true, true, true, true, false, false] hHeld rfl rfl ?_; refine one_ (i := 5) (N := some 51) #[true, true, true, true, true, true, false] rfl rfl Z35 (by decide) (fun K hK => ?_); refine goes_ Try.func66 Z35 rfl #[.agg #[.int .i64 Ao, .int .i64 Ap, .slice Bf Af.length Az], .int .i64 (rd Bc Aw)] (by rfl) rfl rfl Z50 ?_; (with_reducible refine (spec_l12Next.calls k3 Ao Ap _ _ Af (rd Bc Aw) Ac _ ?side1 ?side2 E4.out).mono ?_); (case side1 => exact Z52); (case side2 => exact Dd.out); rintro e Fo ⟨C3, rfl, Dy, hb⟩; have HS3_ := (hb.cell (World.block_lt_of_cell? _ _ (hHeld.2.2.2))).trans (hHeld.2.2.2); refine ⟨_, rfl, ?_⟩; have Dt := aM (Kd.R_lower (Kd.R_new' (Kd.R_new' Dy (Kd.R_lt Z14)) (Kd.R_lt Z27)) (below_size Z10)); replace Ad := aM (Kd.R_elder' Z14 (Kd.R_base Dy) hb); replace Al := aM (Kd.R_elder' Z27 (Kd.R_base Dy) hb); replace Ab := bkB Ab hb; replace HB := hbS Z10 hb; (try clear hb); (try clear hb2); (try clear hk); (try clear hi); (try clear Dy); refine hK.out _ _ (by exact ⟨(blk_cell Ab.out 0).trans rfl, (blk_cell Ab.out 1).trans rfl, (blk_cell Ab.out 2).trans rfl, HS3_⟩) (fun hHeld => ?_); clear hK K; refine noR 51 ?_; refine puK 6 10 #[true, true, true, true, true, true, true] rfl rfl ?_; refine done_ Z35 ?_
             try go_wp2
             go_loopg [8, 11] k3 (fun kq v8 E7 w' => ∃ (Ar : List Int) (Bg : List Int) (Aa : Int), E7 = .int .i64 Aa ∧ Aside0 (spec_l12Areas.l3 kq Ar Ax Ae Bg Aw Ac Aa Ao Ap Af = some (r1, r2)) ∧ Aside0 (kq ≤ k3) ∧ Aside0 (Kd.R (Kd.int .i64) 3 w' w.heap.size (fun k_ => nV k_ v8 ∧ nV k_ C3) (.slice (some ⟨Au, 0, none⟩) Bn.length Bb) Ar) ∧ Aside0 (Kd.R (Kd.int .i64) 3 w' w.heap.size (fun k_ => some k_ ≠ ((.slice (some ⟨Au, 0, none⟩) Bn.length Bb) : Value).ownBlock ∧ nV k_ C3) v8 Bg) ∧ Aside0 (Kd.R (Kd.int .i64) 3 w' w.heap.size (fun k_ => some k_ ≠ ((.slice (some ⟨Au, 0, none⟩) Bn.length Bb) : Value).ownBlock ∧ nV k_ v8) C3 Ac) ∧ Aside0 (w'.heap[Aq]? = some (.cells #[.int .i64 Ao, .int .i64 Ap, (.slice Bf Af.length Az)] 28 (0, 0))) ∧ Aside0 (Below w.heap.size w w'))
             case atStart => exact ⟨(Bn), (Bc), (0), Z5, H', ⟨Nat.le_refl _⟩, ⟨by (try simp only [Ag]); (with_reducible repeat (first | apply Kd.R_alloc | apply Kd.R_drewN | apply Kd.R_drew)); exact Ad.out⟩, ⟨by (try simp only [Ag]); (with_reducible repeat (first | apply Kd.R_alloc | apply Kd.R_drewN | apply Kd.R_drew)); exact Al.out⟩, ⟨by (try simp only [Ag]); (with_reducible repeat (first | apply Kd.R_alloc | apply Kd.R_drewN | apply Kd.R_drew)); exact Kd.R_mono Dt.out (fun _ hk => ⟨hk.1.2, hk.2⟩)⟩, ⟨Z97⟩, ⟨Z10⟩⟩
             case round =>
              clear H'; (try clear c1); (try clear p1); (try clear q1); (try clear E2); (try clear E3); (try clear c2); (try clear p2); (try clear c4); (try clear c5); (try clear c5b0); (try clear c6); (try clear p6); (try clear Cv); (try clear c10b0); (try clear Da); (try clear c11b0); (try clear Cw); (try clear c12b0); (try clear Cy); (try clear Cz); (try clear Ec); (try clear Ed); (try clear Fp); (try clear Fq); (try clear E8); (try clear C1); (try clear c20b0); (try clear Dr); (try clear c21b0); (try clear Bz); (try clear B0); (try clear B2); (try clear B7); (try clear Ca); (try clear Cb); (try clear B4); (try clear B5); (try clear B6); (try clear Cc); (try clear Cd); (try clear Ce); (try clear Bd); (try clear Cm); (try clear Bo); (try clear p1); (try clear Cy); (try clear Bl); (try clear Co); (try clear p2); (try clear p6); (try clear q1); (try clear Cz); (try clear Bm); (try clear Cp); obtain ⟨Ar, Bg, Aa, rfl, HA, HK4, Ad, Al, Ah, Ab, HB⟩ := hrel; have Ai := (Kd.R_reads' Ad.out).1; rw [Ai] at Ad
              (try simp only [Ai])
              (try simp only [Ai] at Ab)
              (try simp only [Ai] at Al)
              (try simp only [Ai] at Ah)
              cases gk with
              | zero => exact absurd HA.out (by simp [spec_l12Areas.l3])
              | succ k4 =>
               have H := HA.out; clear HA
               simp only [spec_l12Areas.l3] at H
               by_cases Db : Aa < (Ac.length : Int)
               ·rw [if_pos Db] at H
                have c26b0 : decide (Aa < (Ac.length : Int)) = true := decide_eq_true Db
                (try simp only [Ag, Ai] at c26b0)
                clear Db
                by_cases Dz : 0 ≤ Aa
                ·rw [if_pos Dz] at H
                 have c27b0 : decide (0 ≤ Aa) = true := decide_eq_true Dz; clear Dz
                 by_cases D0 : 0 ≤ (rd Ac Aa)
                 ·rw [if_pos D0] at H
                  have c28b0 : decide (0 ≤ (rd Ac Aa)) = true := decide_eq_true D0; clear D0
                  by_cases D1 : (rd Ac Aa) < (Ar.length : Int)
                  ·rw [if_pos D1] at H
                   have c29b0 : decide ((rd Ac Aa) < (Ar.length : Int)) = true := decide_eq_true D1
                   (try simp only [Ag, Ai] at c29b0)
                   clear D1
                   by_cases Dc : (rd Ar (rd Ac Aa)) < 0
                   ·rw [if_pos Dc] at H
                    have c30b0 : decide ((rd Ar (rd Ac Aa)) < 0) = true := decide_eq_true Dc; clear Dc
                    by_cases D2 : (rd Ac Aa) < (Af.length : Int)
                    ·rw [if_pos D2] at H
                     have c31b0 : decide ((rd Ac Aa) < (Af.length : Int)) = true := decide_eq_true D2
                     (try simp only [Ag, Ai] at c31b0)
                     clear D2
                     by_cases D3 : 0 ≤ Ae
                     ·rw [if_pos D3] at H
                      have c32b0 : decide (0 ≤ Ae) = true := decide_eq_true D3; clear D3
                      by_cases D4 : Ae < (Af.length : Int)
                      ·rw [if_pos D4] at H
                       have c33b0 : decide (Ae < (Af.length : Int)) = true := decide_eq_true D4
                       (try simp only [Ag, Ai] at c33b0)
                       clear D4
                       by_cases C4 : (rd Af (rd Ac Aa)) = (rd Af Ae)
                       ·rw [if_pos C4] at H
                        have c34b0 : ((rd Af (rd Ac Aa)) == (rd Af Ae)) = true := beq_iff_eq.mpr C4; have c34b1 : ((rd Af (rd Ac Aa)) != (rd Af Ae)) = false := bne_eq_false_iff_eq.mpr C4; clear C4; obtain ⟨Cq, Bv⟩ : ∃ y_ : List Int, y_ = (Ar.set ((rd Ac Aa) : Int).toNat Ax) := ⟨_, rfl⟩
                        replace H : (if Bg.length < 17592186044416 then (spec_l12Areas.l3 k4 Cq Ax Ae (Bg ++ [rd Ac Aa]) Aw Ac (wrap64 (Aa + 1)) Ao Ap Af) else (none)) = some (r1, r2) := by first | (rw [Bv]; with_reducible exact H) | (have H2_ := (Option.bind_some _ _).symm.trans H; rw [Bv]; with_reducible exact H2_) | (have H2_ := (Option.bind_some _ _).symm.trans H; with_reducible exact H2_) | with_reducible exact H | (rw [Bv]; exact H) | exact H
                        have Du := Aside0.mk Bv; clear Bv
                        by_cases D5 : Bg.length < 17592186044416
                        ·rw [if_pos D5] at H
                         have LMc36 := Aside0.mk D5; clear D5; obtain ⟨Dv, Bw⟩ : ∃ y_ : List Int, y_ = (Bg ++ [rd Ac Aa]) := ⟨_, rfl⟩
                         replace H : (spec_l12Areas.l3 k4 Cq Ax Ae Dv Aw Ac (wrap64 (Aa + 1)) Ao Ap Af) = some (r1, r2) := by first | (rw [Bw]; with_reducible exact H) | (have H2_ := (Option.bind_some _ _).symm.trans H; rw [Bw]; with_reducible exact H2_) | (have H2_ := (Option.bind_some _ _).symm.trans H; with_reducible exact H2_) | with_reducible exact H | (rw [Bw]; exact H) | exact H
                         have Dw := Aside0.mk Bw; clear Bw; have H' := Aside0.mk H; clear H; obtain ⟨E9, Cr, Ef⟩ := Kd.R_slice Ah.out; subst Ef
                         try go_wp2
                         replace Ad := aM (Kd.R_drew Ad.out); replace Al := aM (Kd.R_drew Al.out); replace Ah := aM (Kd.R_drew Ah.out); replace Ab := aM (blk_drew Ab.out); replace HB := aM (below_drew1 HB.out); have Bh : 0 ≤ (Aa : Int) := of_decide_eq_true Z3; have Bi : Aa < (Ac.length : Int) := of_decide_eq_true Z3; obtain ⟨ad154, e154, Av⟩ := Kd.at_int (Kd.R_reads' Ah.out).2.2 Aa Bh Bi; cases e154; replace Bh := eq_true Bh; replace Bi := eq_true Bi; have Bj : 0 ≤ ((rd Ac Aa) : Int) := of_decide_eq_true Z3; have Bk : (rd Ac Aa) < (Ar.length : Int) := of_decide_eq_true Z3; obtain ⟨ad155, e155, Aj⟩ := Kd.at_int (Kd.R_reads' Ad.out).2.2 (rd Ac Aa) Bj Bk; obtain rfl : (⟨Au, 0, none⟩ : Addr) = ad155 := (by injection e155)
                         (first | simp only [add_plain] at Aj | simp only [add_at] at Aj | simp only [Addr.add, Nat.zero_add] at Aj | skip)
                         replace Bj := eq_true Bj; replace Bk := eq_true Bk; have Cf : 0 ≤ (Aa : Int) := of_decide_eq_true Z3; have Cg : Aa < (Ac.length : Int) := of_decide_eq_true Z3; obtain ⟨ad156, e156, Ba⟩ := Kd.at_int (Kd.R_reads' Ah.out).2.2 Aa Cf Cg; obtain rfl : ad154 = ad156 := (by injection e156); replace Cf := eq_true Cf; replace Cg := eq_true Cg; have Ch : 0 ≤ ((rd Ac Aa) : Int) := of_decide_eq_true Z3; have Ci : (rd Ac Aa) < (Af.length : Int) := of_decide_eq_true Z3; obtain ⟨ad157, e157, Am⟩ := Kd.at_int Bp.out (rd Ac Aa) Ch Ci; have hw157_0 := Am; cases e157; replace Am := (HB.out.cell (World.block_lt_of_cell? w _ Am)).trans Am; replace Ch := eq_true Ch; replace Ci := eq_true Ci; have Cj : 0 ≤ (Ae : Int) := of_decide_eq_true Z3; have Ck : Ae < (Af.length : Int) := of_decide_eq_true Z3; obtain ⟨ad158, e158, An⟩ := Kd.at_int Bp.out Ae Cj Ck; have hw158_0 := An; obtain rfl : ad157 = ad158 := (by injection e158); replace An := (HB.out.cell (World.block_lt_of_cell? w _ An)).trans An; replace Cj := eq_true Cj; replace Ck := eq_true Ck; refine start_ (n := 24) (S := fun w' => w'.cell? ⟨Aq, 0, none⟩ = some (.int .i64 Ao) ∧ w'.cell? ⟨Aq, 1, none⟩ = some (.int .i64 Ap) ∧ w'.cell? ⟨Aq, 2, none⟩ = some (.slice (some ad157) Af.length Az) ∧ w'.cell? (ad154.add (Aa).toNat) = some (.int .i64 (rd Ac Aa)) ∧ w'.cell? ⟨Au, ((rd Ac Aa)).toNat, none⟩ = some (.int .i64 (rd Ar (rd Ac Aa))) ∧ w'.cell? (ad154.add (Aa).toNat) = some (.int .i64 (rd Ac Aa)) ∧ w'.cell? (ad157.add ((rd Ac Aa)).toNat) = some (.int .i64 (rd Af (rd Ac Aa))) ∧ w'.cell? (ad157.add (Ae).toNat) = some (.int .i64 (rd Af Ae))) (ds := []) #[false, false, false, false, false, false, false, false, false, false, false, false, false, false, false, false, false, false, false, false, false, false, false, false] Z35 rfl rfl ⟨(blk_cell Ab.out 0).trans rfl, (blk_cell Ab.out 1).trans rfl, (blk_cell Ab.out 2).trans rfl, Av, Aj, Ba, ((HB.out.cell (World.block_lt_of_cell? w _ hw157_0)).trans hw157_0), ((HB.out.cell (World.block_lt_of_cell? w _ hw158_0)).trans hw158_0)⟩ (fun hHeld => ?_); refine with_tabW spec_l12Areas.tab20 spec_l12Areas.bits20 (fun HT_ HW_ => ?_)
                         generalize wr.drew = Es at Ad Al Ah Ab HB Av Aj Ba Am An hHeld ⊢
                         refine puR 0 58 #[true, false, false, false, false, false, false, false, false, false, false, false, false, false, false, false, false, false, false, false, false, false, false, false] HT_ rfl rfl ?_; refine puR 1 59 #[true, true, false, false, false, false, false, false, false, false, false, false, false, false, false, false, false, false, false, false, false, false, false, false] HT_ rfl rfl ?_; refine puR 2 60 #[true, true, true, false, false, false, false, false, false, false, false, false, false, false, false, false, false, false, false, false, false, false, false, false] HT_ rfl rfl ?_; refine puR 3 61 #[true, true, true, true, false, false, false, false, false, false, false, false, false, false, false, false, false, false, false, false, false, false, false, false] HT_ rfl rfl ?_; refine taR 4 62 #[true, true, true, true, true, false, false, false, false, false, false, false, false, false, false, false, false, false, false, false, false, false, false, false] HT_ HW_ hHeld rfl rfl ?_; refine puR 5 63 #[true, true, true, true, true, true, false, false, false, false, false, false, false, false, false, false, false, false, false, false, false, false, false, false] HT_ rfl rfl ?_; refine taR 6 64 #[true, true, true, true, true, true, true, false, false, false, false, false, false, false, false, false, false, false, false, false, false, false, false, false] HT_ HW_ hHeld rfl rfl ?_; refine puR 7 65 #[true, true, true, true, true, true, true, true, false, false, false, false, false, false, false, false, false, false, false, false, false, false, false, false] HT_ rfl rfl ?_; refine puR 8 66 #[true, true, true, true, true, true, true, true, true, false, false, false, false, false, false, false, false, false, false, false, false, false, false, false] HT_ rfl rfl ?_; refine puR 9 67 #[true, true, true, true, true, true, true, true, true, true, false, false, false, false, false, false, false, false, false, false, false, false, false, false] HT_ rfl rfl ?_; refine puR 11 69 #[true, true, true, true, true, true, true, true, true, true, false, true, false, false, false, false, false, false, false, false, false, false, false, false] HT_ rfl rfl ?_; refine puR 12 70 #[true, true, true, true, true, true, true, true, true, true, false, true, true, false, false, false, false, false, false, false, false, false, false, false] HT_ rfl rfl ?_; refine puR 13 71 #[true, true, true, true, true, true, true, true, true, true, false, true, true, true, false, false, false, false, false, false, false, false, false, false] HT_ rfl rfl ?_; refine puR 17 75 #[true, true, true, true, true, true, true, true, true, true, false, true, true, true, false, false, false, true, false, false, false, false, false, false] HT_ rfl rfl ?_; refine puR 19 77 #[true, true, true, true, true, true, true, true, true, true, false, true, true, true, false, false, false, true, false, true, false, false, false, false] HT_ rfl rfl ?_; refine taR 10 68 #[true, true, true, true, true, true, true, true, true, true, true, true, true, true, false, false, false, true, false, true, false, false, false, false] HT_ HW_ hHeld rfl rfl ?_; refine taR 14 72 #[true, true, true, true, true, true, true, true, true, true, true, true, true, true, true, false, false, true, false, true, false, false, false, false] HT_ HW_ hHeld rfl rfl ?_; refine puR 15 73 #[true, true, true, true, true, true, true, true, true, true, true, true, true, true, true, true, false, true, false, true, false, false, false, false] HT_ rfl rfl ?_; refine taR 16 74 #[true, true, true, true, true, true, true, true, true, true, true, true, true, true, true, true, true, true, false, true, false, false, false, false] HT_ HW_ hHeld rfl rfl ?_; refine taR 18 76 #[true, true, true, true, true, true, true, true, true, true, true, true, true, true, true, true, true, true, true, true, false, false, false, false] HT_ HW_ hHeld rfl rfl ?_; refine puR 20 78 #[true, true, true, true, true, true, true, true, true, true, true, true, true, true, true, true, true, true, true, true, true, false, false, false] HT_ rfl rfl ?_; refine taR 21 79 #[true, true, true, true, true, true, true, true, true, true, true, true, true, true, true, true, true, true, true, true, true, true, false, false] HT_ HW_ hHeld rfl rfl ?_; refine puR 22 80 #[true, true, true, true, true, true, true, true, true, true, true, true, true, true, true, true, true, true, true, true, true, true, true, false] HT_ rfl rfl ?_; refine puR 23 81 #[true, true, true, true, true, true, true, true, true, true, true, true, true, true, true, true, true, true, true, true, true, true, true, true] HT_ rfl rfl ?_; refine done_ (done_of HT_.out Z35) ?_; have C5 : 0 ≤ (Aa : Int) := of_decide_eq_true Z3; have C6 : Aa < (Ac.length : Int) := of_decide_eq_true Z3; obtain ⟨ad159, e159, D6⟩ := Kd.at_int (Kd.R_reads' Ah.out).2.2 Aa C5 C6; obtain rfl : ad154 = ad159 := (by injection e159); replace C5 := eq_true C5; replace C6 := eq_true C6; have Eg : 0 ≤ ((rd Ac Aa) : Int) := of_decide_eq_true Z3; have Eh : ((rd Ac Aa) : Int) < ((Ar.length : Int) : Int) := of_decide_eq_true Z3; obtain ⟨Ei, Ej⟩ := Kd.R_celln 0 Ad.out ((rd Ac Aa) : Int) Eg Eh; replace Eg := eq_true Eg; replace Eh := eq_true Eh; obtain ⟨hy39_, hz39_⟩ := Kd.R_celln 0 Ad.out ((rd Ac Aa) : Int) (of_decide_eq_true Z3) (of_decide_eq_true Z3); have C7 := Kd.R_putg Ad.out ((rd Ac Aa) : Int) Ax
                         try go_wp2_with (first | ((with_reducible refine gate_store (t := 3) (p := 88) rfl ?_); refine store_event (t := 3) (p := 88) (v := ?vo_w40) (w1 := (Es.setCell ⟨Au, ((rd Ac Aa) : Int).toNat, none⟩ (.int .i64 Ax))) ?hg ?ho ?hn ?hr ?_; (case ho => rfl); (case hg => rfl); (case hn => rfl); (case hr => first | (go_simp; done) | (go_simp; rfl)); intro Ek hw; have hg : Es.grownBy Ek (some Au) := (by rw [hw]; exact C7.2); have hp_ : Kd.R (Kd.int .i64) 3 Ek w.heap.size (fun k_ => nV k_ u8 ∧ some k_ ≠ (.slice (some ad154) Ac.length Cr : Value).ownBlock) (.slice (some ⟨Au, 0, none⟩) Ar.length Bb) Cq := (by rw [hw, Du.out]; exact C7.1); clear C7; replace Al := aM (Kd.R_after (v := (.slice (some ⟨Au, 0, none⟩) Ar.length Bb)) (v1 := (.slice (some ⟨Au, 0, none⟩) Ar.length Bb)) (ok := (fun k_ => some k_ ≠ (.slice (some ad154) Ac.length Cr : Value).ownBlock)) Z89 hg (.inl rfl)); replace Ah := aM (Kd.R_after (v := (.slice (some ⟨Au, 0, none⟩) Ar.length Bb)) (v1 := (.slice (some ⟨Au, 0, none⟩) Ar.length Bb)) (ok := (fun k_ => nV k_ u8)) Z90 hg (.inl rfl)); replace Ab := aM (blk_grown (g := Aq) (o := .cells #[.int .i64 Ao, .int .i64 Ap, .slice (some ad157) Af.length Az] 28 (0, 0)) Z7 hg (Kd.R_ne Ad.out Ab.out (by decide))); replace Ad := aM (hp_); replace HB := aM ((by rw [hw]; exact below_set (HB.out) Dp.out : Below w.heap.size w Ek)); clear hg hw hp_; have C8 : 0 ≤ (Aa : Int) := of_decide_eq_true Z3; have C9 : Aa < (Ac.length : Int) := of_decide_eq_true Z3; obtain ⟨ad161, e161, D7⟩ := Kd.at_int (Kd.R_reads' Ah.out).2.2 Aa C8 C9; obtain rfl : ad154 = ad161 := (by injection e161); replace C8 := eq_true C8; replace C9 := eq_true C9) | ((with_reducible refine gate_builtin (b := .append) (xs := #[.tmp 89, .tmp 94]) rfl ?_); at_builtin; refine Kd.R_append (Kd.int .i64) (w0 := w) w.heap.size rfl (.tmp 89) (.tmp 94) 22 3 (.int .i64 0) 8 rfl Try.underlying22 info3 rfl (by decide) (by omega) u8 Bg (rd Ac Aa) [.int .i64 (rd Ac Aa)] (fun k_ => some k_ ≠ (.slice (some ⟨Au, 0, none⟩) Ar.length Bb : Value).ownBlock ∧ some k_ ≠ (.slice (some ad154) Ac.length Cr : Value).ownBlock) (fun _ => False) rfl rfl ?aP (fun _ hk => hk.elim) ?aF ?aO ?aB ?aS ?aL ?_; (case aP => exact rfl); (case aB => exact Z10); (case aF => exact (fun k_ hk => ⟨Kd.fresh' (Kd.R_lt Z14) k_ hk, Kd.fresh' (Kd.R_lt Z46) k_ hk⟩)); (case aO => exact Z89); (case aS => exact (below_size Z10)); (case aL => have := LMc36.out; omega); intro Fa Fr ho hb hg hat; rw [← Dw.out] at ho; replace Ad := aM (Kd.R_after (ok := (fun k_ => some k_ ≠ (.slice (some ad154) Ac.length Cr : Value).ownBlock)) (by (with_reducible repeat (first | apply Kd.R_alloc | apply Kd.R_drewN | apply Kd.R_drew)); exact Kd.R_mono Ad.out (fun _ hk => ⟨hk.2, hk.1⟩)) hg hat); replace Ah := aM (Kd.R_after (ok := (fun k_ => some k_ ≠ (.slice (some ⟨Au, 0, none⟩) Ar.length Bb : Value).ownBlock)) Z90 hg hat); replace Ab := aM (blk_grown (g := Aq) (o := .cells #[.int .i64 Ao, .int .i64 Ap, .slice (some ad157) Af.length Az] 28 (0, 0)) Z7 hg (Kd.R_ne Al.out Ab.out (by decide))); replace HB := aM (hb); have Dx := aM (ho); clear Al; clear ho hb hg hat))
                         (try simp only [← Ai])
                         go_roundg k4
                         case measure => have := HK1.out; have := HK2.out; have := HK3.out; have := HK4.out; omega
                         case rel => exact ⟨(Cq), (Dv), (wrap64 (Aa + 1)), Z5, H', ⟨Z81⟩, ⟨by (try simp only [Ag]); (try simp only [Ai]); (with_reducible repeat (first | apply Kd.R_alloc | apply Kd.R_drewN | apply Kd.R_drew)); exact Kd.R_mono Ad.out (fun _ hk => ⟨hk.2, hk.1⟩)⟩, ⟨by (try simp only [Ag]); (try simp only [Ai]); (with_reducible repeat (first | apply Kd.R_alloc | apply Kd.R_drewN | apply Kd.R_drew)); exact Dx.out⟩, ⟨Z57⟩, ⟨Z45⟩, ⟨Z10⟩⟩
                        ·rw [if_neg D5] at H
                         exact absurd H (by simp)
                       ·rw [if_neg C4] at H
                        have c34b0 : ((rd Af (rd Ac Aa)) == (rd Af Ae)) = false := beq_eq_false_iff_ne.mpr C4; have c34b1 : ((rd Af (rd Ac Aa)) != (rd Af Ae)) = true := bne_iff_ne.mpr C4; have H' := Aside0.mk H; clear H; obtain ⟨Fb, Fc, El⟩ := Kd.R_slice Ah.out; subst El
                        try go_wp2
                        replace Ad := aM (Kd.R_drew Ad.out); replace Al := aM (Kd.R_drew Al.out); replace Ah := aM (Kd.R_drew Ah.out); replace Ab := aM (blk_drew Ab.out); replace HB := aM (below_drew1 HB.out); have Bh : 0 ≤ (Aa : Int) := of_decide_eq_true Z3; have Bi : Aa < (Ac.length : Int) := of_decide_eq_true Z3; obtain ⟨ad154, e154, Av⟩ := Kd.at_int (Kd.R_reads' Ah.out).2.2 Aa Bh Bi; cases e154; replace Bh := eq_true Bh; replace Bi := eq_true Bi; have Bj : 0 ≤ ((rd Ac Aa) : Int) := of_decide_eq_true Z3; have Bk : (rd Ac Aa) < (Ar.length : Int) := of_decide_eq_true Z3; obtain ⟨ad155, e155, Aj⟩ := Kd.at_int (Kd.R_reads' Ad.out).2.2 (rd Ac Aa) Bj Bk; obtain rfl : (⟨Au, 0, none⟩ : Addr) = ad155 := (by injection e155)
                        (first | simp only [add_plain] at Aj | simp only [add_at] at Aj | simp only [Addr.add, Nat.zero_add] at Aj | skip)
                        replace Bj := eq_true Bj; replace Bk := eq_true Bk; have Cf : 0 ≤ (Aa : Int) := of_decide_eq_true Z3; have Cg : Aa < (Ac.length : Int) := of_decide_eq_true Z3; obtain ⟨ad156, e156, Ba⟩ := Kd.at_int (Kd.R_reads' Ah.out).2.2 Aa Cf Cg; obtain rfl : ad154 = ad156 := (by injection e156); replace Cf := eq_true Cf; replace Cg := eq_true Cg; have Ch : 0 ≤ ((rd Ac Aa) : Int) := of_decide_eq_true Z3; have Ci : (rd Ac Aa) < (Af.length : Int) := of_decide_eq_true Z3; obtain ⟨ad157, e157, Am⟩ := Kd.at_int Bp.out (rd Ac Aa) Ch Ci; have hw157_0 := Am; cases e157; replace Am := (HB.out.cell (World.block_lt_of_cell? w _ Am)).trans Am; replace Ch := eq_true Ch; replace Ci := eq_true Ci; have Cj : 0 ≤ (Ae : Int) := of_decide_eq_true Z3; have Ck : Ae < (Af.length : Int) := of_decide_eq_true Z3; obtain ⟨ad158, e158, An⟩ := Kd.at_int Bp.out Ae Cj Ck; have hw158_0 := An; obtain rfl : ad157 = ad158 := (by injection e158); replace An := (HB.out.cell (World.block_lt_of_cell? w _ An)).trans An; replace Cj := eq_true Cj; replace Ck := eq_true Ck; refine start_ (n := 24) (S := fun w' => w'.cell? ⟨Aq, 0, none⟩ = some (.int .i64 Ao) ∧ w'.cell? ⟨Aq, 1, none⟩ = some (.int .i64 Ap) ∧ w'.cell? ⟨Aq, 2, none⟩ = some (.slice (some ad157) Af.length Az) ∧ w'.cell? (ad154.add (Aa).toNat) = some (.int .i64 (rd Ac Aa)) ∧ w'.cell? ⟨Au, ((rd Ac Aa)).toNat, none⟩ = some (.int .i64 (rd Ar (rd Ac Aa))) ∧ w'.cell? (ad154.add (Aa).toNat) = some (.int .i64 (rd Ac Aa)) ∧ w'.cell? (ad157.add ((rd Ac Aa)).toNat) = some (.int .i64 (rd Af (rd Ac Aa))) ∧ w'.cell? (ad157.add (Ae).toNat) = some (.int .i64 (rd Af Ae))) (ds := []) #[false, false, false, false, false, false, false, false, false, false, false, false, false, false, false, false, false, false, false, false, false, false, false, false] Z35 rfl rfl ⟨(blk_cell Ab.out 0).trans rfl, (blk_cell Ab.out 1).trans rfl, (blk_cell Ab.out 2).trans rfl, Av, Aj, Ba, ((HB.out.cell (World.block_lt_of_cell? w _ hw157_0)).trans hw157_0), ((HB.out.cell (World.block_lt_of_cell? w _ hw158_0)).trans hw158_0)⟩ (fun hHeld => ?_); refine with_tabW spec_l12Areas.tab20 spec_l12Areas.bits20 (fun HT_ HW_ => ?_)
                        generalize wr.drew = Fs at Ad Al Ah Ab HB Av Aj Ba Am An hHeld ⊢
                        refine puR 0 58 #[true, false, false, false, false, false, false, false, false, false, false, false, false, false, false, false, false, false, false, false, false, false, false, false] HT_ rfl rfl ?_; refine puR 1 59 #[true, true, false, false, false, false, false, false, false, false, false, false, false, false, false, false, false, false, false, false, false, false, false, false] HT_ rfl rfl ?_; refine puR 2 60 #[true, true, true, false, false, false, false, false, false, false, false, false, false, false, false, false, false, false, false, false, false, false, false, false] HT_ rfl rfl ?_; refine puR 3 61 #[true, true, true, true, false, false, false, false, false, false, false, false, false, false, false, false, false, false, false, false, false, false, false, false] HT_ rfl rfl ?_; refine taR 4 62 #[true, true, true, true, true, false, false, false, false, false, false, false, false, false, false, false, false, false, false, false, false, false, false, false] HT_ HW_ hHeld rfl rfl ?_; refine puR 5 63 #[true, true, true, true, true, true, false, false, false, false, false, false, false, false, false, false, false, false, false, false, false, false, false, false] HT_ rfl rfl ?_; refine taR 6 64 #[true, true, true, true, true, true, true, false, false, false, false, false, false, false, false, false, false, false, false, false, false, false, false, false] HT_ HW_ hHeld rfl rfl ?_; refine puR 7 65 #[true, true, true, true, true, true, true, true, false, false, false, false, false, false, false, false, false, false, false, false, false, false, false, false] HT_ rfl rfl ?_; refine puR 8 66 #[true, true, true, true, true, true, true, true, true, false, false, false, false, false, false, false, false, false, false, false, false, false, false, false] HT_ rfl rfl ?_; refine puR 9 67 #[true, true, true, true, true, true, true, true, true, true, false, false, false, false, false, false, false, false, false, false, false, false, false, false] HT_ rfl rfl ?_; refine puR 11 69 #[true, true, true, true, true, true, true, true, true, true, false, true, false, false, false, false, false, false, false, false, false, false, false, false] HT_ rfl rfl ?_; refine puR 12 70 #[true, true, true, true, true, true, true, true, true, true, false, true, true, false, false, false, false, false, false, false, false, false, false, false] HT_ rfl rfl ?_; refine puR 13 71 #[true, true, true, true, true, true, true, true, true, true, false, true, true, true, false, false, false, false, false, false, false, false, false, false] HT_ rfl rfl ?_; refine puR 17 75 #[true, true, true, true, true, true, true, true, true, true, false, true, true, true, false, false, false, true, false, false, false, false, false, false] HT_ rfl rfl ?_; refine puR 19 77 #[true, true, true, true, true, true, true, true, true, true, false, true, true, true, false, false, false, true, false, true, false, false, false, false] HT_ rfl rfl ?_; refine taR 10 68 #[true, true, true, true, true, true, true, true, true, true, true, true, true, true, false, false, false, true, false, true, false, false, false, false] HT_ HW_ hHeld rfl rfl ?_; refine taR 14 72 #[true, true, true, true, true, true, true, true, true, true, true, true, true, true, true, false, false, true, false, true, false, false, false, false] HT_ HW_ hHeld rfl rfl ?_; refine puR 15 73 #[true, true, true, true, true, true, true, true, true, true, true, true, true, true, true, true, false, true, false, true, false, false, false, false] HT_ rfl rfl ?_; refine taR 16 74 #[true, true, true, true, true, true, true, true, true, true, true, true, true, true, true, true, true, true, false, true, false, false, false, false] HT_ HW_ hHeld rfl rfl ?_; refine taR 18 76 #[true, true, true, true, true, true, true, true, true, true, true, true, true, true, true, true, true, true, true, true, false, false, false, false] HT_ HW_ hHeld rfl rfl ?_; refine puR 20 78 #[true, true, true, true, true, true, true, true, true, true, true, true, true, true, true, true, true, true, true, true, true, false, false, false] HT_ rfl rfl ?_; refine taR 21 79 #[true, true, true, true, true, true, true, true, true, true, true, true, true, true, true, true, true, true, true, true, true, true, false, false] HT_ HW_ hHeld rfl rfl ?_; refine puR 22 80 #[true, true, true, true, true, true, true, true, true, true, true, true, true, true, true, true, true, true, true, true, true, true, true, false] HT_ rfl rfl ?_; refine puR 23 81 #[true, true, true, true, true, true, true, true, true, true, true, true, true, true, true, true, true, true, true, true, true, true, true, true] HT_ rfl rfl ?_; refine done_ (done_of HT_.out Z35) ?_
                        try go_wp2
                        (try simp only [← Ai])
                        go_roundg k4
                        case measure => have := HK1.out; have := HK2.out; have := HK3.out; have := HK4.out; omega
                        case rel => exact ⟨(Ar), (Bg), (wrap64 (Aa + 1)), Z5, H', ⟨Z81⟩, ⟨Z82⟩, ⟨Z83⟩, ⟨Z57⟩, ⟨Z45⟩, ⟨Z10⟩⟩
                      ·rw [if_neg D4] at H
                       exact absurd H (by simp)
                     ·rw [if_neg D3] at H
                      exact absurd H (by simp)
                    ·rw [if_neg D2] at H
                     exact absurd H (by simp)
                   ·rw [if_neg Dc] at H
                    have c30b0 : decide ((rd Ar (rd Ac Aa)) < 0) = false := decide_eq_false Dc; clear Dc; have H' := Aside0.mk H; clear H; obtain ⟨Fd, Fe, Em⟩ := Kd.R_slice Ah.out; subst Em
                    try go_wp2
                    replace Ad := aM (Kd.R_drew Ad.out); replace Al := aM (Kd.R_drew Al.out); replace Ah := aM (Kd.R_drew Ah.out); replace Ab := aM (blk_drew Ab.out); replace HB := aM (below_drew1 HB.out); have Bh : 0 ≤ (Aa : Int) := of_decide_eq_true Z3; have Bi : Aa < (Ac.length : Int) := of_decide_eq_true Z3; obtain ⟨ad154, e154, Av⟩ := Kd.at_int (Kd.R_reads' Ah.out).2.2 Aa Bh Bi; cases e154; replace Bh := eq_true Bh; replace Bi := eq_true Bi; have Bj : 0 ≤ ((rd Ac Aa) : Int) := of_decide_eq_true Z3; have Bk : (rd Ac Aa) < (Ar.length : Int) := of_decide_eq_true Z3; obtain ⟨ad155, e155, Aj⟩ := Kd.at_int (Kd.R_reads' Ad.out).2.2 (rd Ac Aa) Bj Bk; obtain rfl : (⟨Au, 0, none⟩ : Addr) = ad155 := (by injection e155)
                    (first | simp only [add_plain] at Aj | simp only [add_at] at Aj | simp only [Addr.add, Nat.zero_add] at Aj | skip)
                    replace Bj := eq_true Bj; replace Bk := eq_true Bk; refine start_ (n := 24) (S := fun w' => w'.cell? (ad154.add (Aa).toNat) = some (.int .i64 (rd Ac Aa)) ∧ w'.cell? ⟨Au, ((rd Ac Aa)).toNat, none⟩ = some (.int .i64 (rd Ar (rd Ac Aa)))) (ds := []) #[false, false, false, false, false, false, false, false, false, false, false, false, false, false, false, false, false, false, false, false, false, false, false, false] Z35 rfl rfl ⟨Av, Aj⟩ (fun hHeld => ?_); refine with_tabW spec_l12Areas.tab20 spec_l12Areas.bits20 (fun HT_ HW_ => ?_)
                    generalize wr.drew = Ft at Ad Al Ah Ab HB Av Aj hHeld ⊢
                    refine puR 0 58 #[true, false, false, false, false, false, false, false, false, false, false, false, false, false, false, false, false, false, false, false, false, false, false, false] HT_ rfl rfl ?_; refine puR 1 59 #[true, true, false, false, false, false, false, false, false, false, false, false, false, false, false, false, false, false, false, false, false, false, false, false] HT_ rfl rfl ?_; refine puR 2 60 #[true, true, true, false, false, false, false, false, false, false, false, false, false, false, false, false, false, false, false, false, false, false, false, false] HT_ rfl rfl ?_; refine puR 3 61 #[true, true, true, true, false, false, false, false, false, false, false, false, false, false, false, false, false, false, false, false, false, false, false, false] HT_ rfl rfl ?_; refine taR 4 62 #[true, true, true, true, true, false, false, false, false, false, false, false, false, false, false, false, false, false, false, false, false, false, false, false] HT_ HW_ hHeld rfl rfl ?_; refine puR 5 63 #[true, true, true, true, true, true, false, false, false, false, false, false, false, false, false, false, false, false, false, false, false, false, false, false] HT_ rfl rfl ?_; refine taR 6 64 #[true, true, true, true, true, true, true, false, false, false, false, false, false, false, false, false, false, false, false, false, false, false, false, false] HT_ HW_ hHeld rfl rfl ?_; refine puR 7 65 #[true, true, true, true, true, true, true, true, false, false, false, false, false, false, false, false, false, false, false, false, false, false, false, false] HT_ rfl rfl ?_; refine puR 8 66 #[true, true, true, true, true, true, true, true, true, false, false, false, false, false, false, false, false, false, false, false, false, false, false, false] HT_ rfl rfl ?_; refine pure_ (i := 9) (N := some 67) (v := undef) (a' := ?_) #[true, true, true, true, true, true, true, true, true, true, false, false, false, false, false, false, false, false, false, false, false, false, false, false] rfl rfl (any_of HT_.out Z35) (fun _ _ _ h => h) (Or.inr ⟨by rfl, rfl⟩) ?_ ?_
                    rotate_left
                    ·exact Z16
                    refine pure_ (i := 10) (N := some 68) (v := undef) (a' := ?_) #[true, true, true, true, true, true, true, true, true, true, true, false, false, false, false, false, false, false, false, false, false, false, false, false] rfl rfl (any_of HT_.out Z35) (fun _ _ _ h => h) (Or.inr ⟨by rfl, rfl⟩) ?_ ?_
                    rotate_left
                    ·exact Z16
                    refine pure_ (i := 11) (N := some 69) (v := undef) (a' := ?_) #[true, true, true, true, true, true, true, true, true, true, true, true, false, false, false, false, false, false, false, false, false, false, false, false] rfl rfl (any_of HT_.out Z35) (fun _ _ _ h => h) (Or.inr ⟨by rfl, rfl⟩) ?_ ?_
                    rotate_left
                    ·exact Z16
                    refine pure_ (i := 12) (N := some 70) (v := undef) (a' := ?_) #[true, true, true, true, true, true, true, true, true, true, true, true, true, false, false, false, false, false, false, false, false, false, false, false] rfl rfl (any_of HT_.out Z35) (fun _ _ _ h => h) (Or.inr ⟨by rfl, rfl⟩) ?_ ?_
                    rotate_left
                    ·exact Z16
                    refine pure_ (i := 13) (N := some 71) (v := undef) (a' := ?_) #[true, true, true, true, true, true, true, true, true, true, true, true, true, true, false, false, false, false, false, false, false, false, false, false] rfl rfl (any_of HT_.out Z35) (fun _ _ _ h => h) (Or.inr ⟨by rfl, rfl⟩) ?_ ?_
                    rotate_left
                    ·exact Z16
                    refine pure_ (i := 14) (N := some 72) (v := undef) (a' := ?_) #[true, true, true, true, true, true, true, true, true, true, true, true, true, true, true, false, false, false, false, false, false, false, false, false] rfl rfl (any_of HT_.out Z35) (fun _ _ _ h => h) (Or.inr ⟨by rfl, rfl⟩) ?_ ?_
                    rotate_left
                    ·exact Z16
                    refine pure_ (i := 15) (N := some 73) (v := undef) (a' := ?_) #[true, true, true, true, true, true, true, true, true, true, true, true, true, true, true, true, false, false, false, false, false, false, false, false] rfl rfl (any_of HT_.out Z35) (fun _ _ _ h => h) (Or.inr ⟨by rfl, rfl⟩) ?_ ?_
                    rotate_left
                    ·exact Z16
                    refine pure_ (i := 16) (N := some 74) (v := undef) (a' := ?_) #[true, true, true, true, true, true, true, true, true, true, true, true, true, true, true, true, true, false, false, false, false, false, false, false] rfl rfl (any_of HT_.out Z35) (fun _ _ _ h => h) (Or.inr ⟨by rfl, rfl⟩) ?_ ?_
                    rotate_left
                    ·exact Z16
                    refine pure_ (i := 17) (N := some 75) (v := undef) (a' := ?_) #[true, true, true, true, true, true, true, true, true, true, true, true, true, true, true, true, true, true, false, false, false, false, false, false] rfl rfl (any_of HT_.out Z35) (fun _ _ _ h => h) (Or.inr ⟨by rfl, rfl⟩) ?_ ?_
                    rotate_left
                    ·exact Z16
                    refine pure_ (i := 18) (N := some 76) (v := undef) (a' := ?_) #[true, true, true, true, true, true, true, true, true, true, true, true, true, true, true, true, true, true, true, false, false, false, false, false] rfl rfl (any_of HT_.out Z35) (fun _ _ _ h => h) (Or.inr ⟨by rfl, rfl⟩) ?_ ?_
                    rotate_left
                    ·exact Z16
                    refine pure_ (i := 19) (N := some 77) (v := undef) (a' := ?_) #[true, true, true, true, true, true, true, true, true, true, true, true, true, true, true, true, true, true, true, true, false, false, false, false] rfl rfl (any_of HT_.out Z35) (fun _ _ _ h => h) (Or.inr ⟨by rfl, rfl⟩) ?_ ?_
                    rotate_left
                    ·exact Z16
                    refine pure_ (i := 20) (N := some 78) (v := undef) (a' := ?_) #[true, true, true, true, true, true, true, true, true, true, true, true, true, true, true, true, true, true, true, true, true, false, false, false] rfl rfl (any_of HT_.out Z35) (fun _ _ _ h => h) (Or.inr ⟨by rfl, rfl⟩) ?_ ?_
                    rotate_left
                    ·exact Z16
                    refine pure_ (i := 21) (N := some 79) (v := undef) (a' := ?_) #[true, true, true, true, true, true, true, true, true, true, true, true, true, true, true, true, true, true, true, true, true, true, false, false] rfl rfl (any_of HT_.out Z35) (fun _ _ _ h => h) (Or.inr ⟨by rfl, rfl⟩) ?_ ?_
                    rotate_left
                    ·exact Z16
                    refine pure_ (i := 22) (N := some 80) (v := undef) (a' := ?_) #[true, true, true, true, true, true, true, true, true, true, true, true, true, true, true, true, true, true, true, true, true, true, true, false] rfl rfl (any_of HT_.out Z35) (fun _ _ _ h => h) (Or.inr ⟨by rfl, rfl⟩) ?_ ?_
                    rotate_left
                    ·exact Z16
                    refine puR 23 81 #[true, true, true, true, true, true, true, true, true, true, true, true, true, true, true, true, true, true, true, true, true, true, true, true] HT_ rfl rfl ?_; refine done_ (done_of HT_.out Z35) ?_
                    try go_wp2
                    (try simp only [← Ai])
                    go_roundg k4
                    case measure => have := HK1.out; have := HK2.out; have := HK3.out; have := HK4.out; omega
                    case rel => exact ⟨(Ar), (Bg), (wrap64 (Aa + 1)), Z5, H', ⟨Z81⟩, ⟨Z82⟩, ⟨Z83⟩, ⟨Z57⟩, ⟨Z45⟩, ⟨Z10⟩⟩
                  ·rw [if_neg D1] at H
                   exact absurd H (by simp)
                 ·rw [if_neg D0] at H
                  exact absurd H (by simp)
                ·rw [if_neg Dz] at H
                 exact absurd H (by simp)
               ·rw [if_neg Db] at H
                have c26b0 : decide (Aa < (Ac.length : Int)) = false := decide_eq_false Db
                (try simp only [Ag, Ai] at c26b0)
                clear Db; have H' := Aside0.mk H; clear H; obtain ⟨Ff, Fg, En⟩ := Kd.R_slice Ah.out; subst En
                go_wp2
                (try simp only [← Ag, ← Ai])
                go_roundg k4
                case measure => have := HK1.out; have := HK2.out; have := HK3.out; have := HK4.out; omega
                case rel => exact ⟨(Ar), (Bg), (wrap64 (Aw + 1)), Z5, H', ⟨Z81⟩, ⟨by (try simp only [Ag]); (try simp only [Ai]); (with_reducible repeat (first | apply Kd.R_alloc | apply Kd.R_drewN | apply Kd.R_drew)); exact Kd.R_mono Ad.out (fun _ hk => hk.1)⟩, ⟨by (try simp only [Ag]); (try simp only [Ai]); (with_reducible repeat (first | apply Kd.R_alloc | apply Kd.R_drewN | apply Kd.R_drew)); exact Kd.R_mono Al.out (fun _ hk => hk.1)⟩, ⟨Z45⟩, ⟨Z10⟩⟩
            ·rw [if_neg Dr] at H
             exact absurd H (by simp)
           ·rw [if_neg C1] at H
            have c20b0 : decide (Aw < (Bc.length : Int)) = false := decide_eq_false C1
            (try simp only [Ag] at c20b0)
            clear C1; have H' := Aside0.mk H; clear H; obtain ⟨Fh, Fi, Eo⟩ := Kd.R_slice Al.out; subst Eo
            go_wp2
            (try simp only [← Ag])
            go_roundg k3
            case measure => have := HK1.out; have := HK2.out; have := HK3.out; omega
            case rel => exact ⟨(Bn), (wrap64 (Ax + 1)), (wrap64 (Ae + 1)), Z5, Z5, H', ⟨Z85⟩, ⟨by (try simp only [Ag]); (with_reducible repeat (first | apply Kd.R_alloc | apply Kd.R_drewN | apply Kd.R_drew)); exact Kd.R_mono Ad.out (fun _ hk => trivial)⟩, ⟨Z97⟩, ⟨Z10⟩⟩
       ·rw [if_neg Da] at H
        exact absurd H (by simp)
      ·rw [if_neg Cv] at H
       have c10b0 : decide (Ae < (Ay.length : Int)) = false := decide_eq_false Cv; clear Cv
       simp only [Option.some.injEq, Prod.mk.injEq] at H
       obtain ⟨rfl, rfl⟩ := H; obtain ⟨Fj, Fk, Ep⟩ := Kd.R_slice Ad.out; subst Ep
       go_wp2
       go_ret2
       exact ⟨_, Z4, Z14, Z10⟩
end Go.Proofs.Ytaadbpibmlnncaa.H
