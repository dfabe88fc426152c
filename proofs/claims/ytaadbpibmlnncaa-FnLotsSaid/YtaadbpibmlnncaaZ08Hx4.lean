-- by wip/pack.py of this repo
import Derived.Test.YtaadbpibmlnncaaZ08Hx0
import Derived.Test.YtaadbpibmlnncaaZ08Hx3
import Derived.Test.YtaadbpibmlnncaaZ08WLast
import Derived.Test.YtaadbpibmlnncaaZ08WMore
import Derived.Test.YtaadbpibmlnncaaZ08WRepsOne
import Derived.Test.YtaadbpibmlnncaaZ08WTab
import Derived.Test.YtaadbpibmlnncaaZ08WWords
import Derived.Test.YtaadbpibmlnncaaZ08Short
namespace Go.Proofs.Ytaadbpibmlnncaa.H
open Go.RowKit Go.Proofs.YtaadbpibmlnncaaW.PrintWords Go.Proofs.YtaadbpibmlnncaaW.PrintLast Go.Proofs.YtaadbpibmlnncaaW.PrintMore
attribute [local go_sem] max2_int min2_int max_two min_two max_three min_three max_four min_four
set_option maxHeartbeats 8000000
set_option maxRecDepth 100000
set_option linter.unusedVariables false
set_option linter.unusedSimpArgs false
mutual
def impl_Chart_areas.l0 : Nat → List Int → Int → Int → Int → Int → Int → List Int → Option (List Int × Int)
 | 0, _, _, _, _, _, _, _ => none
 | k + 1, x4, x5, x17, x18, x206000, x206001, x206002 => if x18 < x17 then (if 0 ≤ x18 then (if x18 < (x4.length : Int) then (if (rd x4 x18) ≥ 0 then (impl_Chart_areas.l0 k x4 x5 x17 (wrap64 (x18 + 1)) x206000 x206001 x206002) else (impl_Chart_areas.l1 k (x4.set (x18 : Int).toNat x5) x5 x18 (([x18] : List Int)) 0 x17 x18 x206000 x206001 x206002)) else (none)) else (none)) else (some (x4, x5))
def impl_Chart_areas.l1 : Nat → List Int → Int → Int → List Int → Int → Int → Int → Int → Int → List Int → Option (List Int × Int)
 | 0, _, _, _, _, _, _, _, _, _, _ => none
 | k + 1, x4, x5, x6, x7, x8, x17, x18, x206000, x206001, x206002 => if x8 < (x7.length : Int) then (if 0 ≤ x8 then ((impl_Chart_besides.f k x206000 x206001 x206002 (rd x7 x8)).bind fun t218 => (impl_Chart_areas.l2 k x4 x5 x6 x7 x8 x17 x18 t218 (t218.length : Int) 0 x206000 x206001 x206002)) else (none)) else (impl_Chart_areas.l0 k x4 (wrap64 (x5 + 1)) x17 (wrap64 (x18 + 1)) x206000 x206001 x206002)
def impl_Chart_areas.l2 : Nat → List Int → Int → Int → List Int → Int → Int → Int → List Int → Int → Int → Int → Int → List Int → Option (List Int × Int)
 | 0, _, _, _, _, _, _, _, _, _, _, _, _, _ => none
 | k + 1, x4, x5, x6, x7, x8, x17, x18, x43, x44, x45, x206000, x206001, x206002 => if x45 < x44 then (if 0 ≤ x45 then (if x45 < (x43.length : Int) then (if 0 ≤ (rd x43 x45) then (if (rd x43 x45) < (x4.length : Int) then (if (rd x4 (rd x43 x45)) < 0 then (if (rd x43 x45) < (x206002.length : Int) then (if 0 ≤ x6 then (if x6 < (x206002.length : Int) then (if (rd x206002 (rd x43 x45)) = (rd x206002 x6) then (if x7.length < 17592186044416 then (impl_Chart_areas.l2 k (x4.set ((rd x43 x45) : Int).toNat x5) x5 x6 (x7 ++ [rd x43 x45]) x8 x17 x18 x43 x44 (wrap64 (x45 + 1)) x206000 x206001 x206002) else (none)) else (impl_Chart_areas.l2 k x4 x5 x6 x7 x8 x17 x18 x43 x44 (wrap64 (x45 + 1)) x206000 x206001 x206002)) else (none)) else (none)) else (none)) else (impl_Chart_areas.l2 k x4 x5 x6 x7 x8 x17 x18 x43 x44 (wrap64 (x45 + 1)) x206000 x206001 x206002)) else (none)) else (none)) else (none)) else (none)) else (impl_Chart_areas.l1 k x4 x5 x6 x7 (wrap64 (x8 + 1)) x17 x18 x206000 x206001 x206002)
end
def impl_Chart_areas.f (k : Nat) (a0_0 : Int) (a0_1 : Int) (l0_2 : List Int) : Option (List Int × Int) := (slices_Repeat_int_int.f (([(-1)] : List Int)) (l0_2.length : Int)).bind fun t209 => (impl_Chart_areas.l0 k t209 0 (t209.length : Int) 0 a0_0 a0_1 l0_2)
def impl_Chart_areas.T11 : Bool × List (List Nat × List Nat) := (true, [([], []), ([], []), ([], []), ([1, 2], [1, 2]), ([3], [3]), ([0, 4], [0, 4]), ([5], [5]), ([], [])])
def impl_Chart_areas.B11 : List Nat := [0, 0, 0, 6, 14, 31, 63, 0]
theorem impl_Chart_areas.tab11 : rtab .any (opsOf Try.f46 11) = impl_Chart_areas.T11 := by kernel_rfl
theorem impl_Chart_areas.bits11 : waitsOk impl_Chart_areas.T11.2 impl_Chart_areas.B11 = true := by kernel_rfl
def impl_Chart_areas.T14 : Bool × List (List Nat × List Nat) := (true, [([], []), ([], []), ([0, 1], [0, 1]), ([2], [2]), ([3], [3]), ([4], [4]), ([5], [5]), ([6, 5], [5, 6]), ([5], [5]), ([7, 8, 5], [5, 7, 8]), ([9, 5], [5, 9]), ([5], [5]), ([11, 5], [5, 11]), ([5], [5]), ([12, 13, 5], [5, 12, 13]), ([14, 5], [5, 14]), ([10, 15, 5], [5, 10, 15]), ([5, 16], [5, 16])])
def impl_Chart_areas.B14 : List Nat := [0, 0, 3, 7, 15, 31, 63, 127, 63, 511, 1023, 63, 2111, 63, 14399, 30783, 65535, 131071]
theorem impl_Chart_areas.tab14 : rtab .any (opsOf Try.f46 14) = impl_Chart_areas.T14 := by kernel_rfl
theorem impl_Chart_areas.bits14 : waitsOk impl_Chart_areas.T14.2 impl_Chart_areas.B14 = true := by kernel_rfl
theorem impl_Chart_areas.calls (k : Nat) (Aq : Int) (Ar : Int) (Bl : Option Addr) (Bb : Nat) (Af : List Int) (r1 : List Int) (r2 : Int) (w : World) (Cl : Kd.C (Kd.int .i64) w Bl Af.length Af) (Cm : Af.length ≤ Bb) (h : impl_Chart_areas.f k Aq Ar Af = some (r1, r2)) :
  Calls Try.prog 46 #[.agg #[.int .i64 Aq, .int .i64 Ar, .slice Bl Af.length Bb]] w fun e w' => ∃ v0_ : Value, e = .returned (.tuple #[v0_, .int .i64 r2]) ∧ Kd.R (Kd.int .i64) 3 w' w.heap.size (fun _ => True) v0_ r1 ∧ Below w.heap.size w w' := by
 have hu28 := Try.underlying28; have Bq := Aside0.mk Cl; have C7 := Aside0.mk Cm; clear Cl Cm; have HB := aM (Below.refl w.heap.size w); have H : ((slices_Repeat_int_int.f (([(-1)] : List Int)) (Af.length : Int)).bind fun Ax => (impl_Chart_areas.l0 k Ax 0 (Ax.length : Int) 0 Aq Ar Af)) = some (r1, r2) := h; clear h; obtain ⟨Cu, Br⟩ : ∃ y_ : List Int, y_ = (([(-1)] : List Int)) := ⟨_, rfl⟩
 replace H : ((slices_Repeat_int_int.f Cu (Af.length : Int)).bind fun Ax => (impl_Chart_areas.l0 k Ax 0 (Ax.length : Int) 0 Aq Ar Af)) = some (r1, r2) := by first | (rw [Br]; with_reducible exact H) | (have H2_ := (Option.bind_some _ _).symm.trans H; rw [Br]; with_reducible exact H2_) | (have H2_ := (Option.bind_some _ _).symm.trans H; with_reducible exact H2_) | with_reducible exact H | (rw [Br]; exact H) | exact H
 have Cn := Aside0.mk Br; clear Br; replace H := Option.bind_eq_some_iff.mp H; obtain ⟨Ax, D6, H⟩ := H; replace H : (impl_Chart_areas.l0 k Ax 0 (Ax.length : Int) 0 Aq Ar Af) = some (r1, r2) := H; have A2 := Aside0.mk D6; clear D6; have H' := Aside0.mk H; clear H
 go_enter Try.func46, Try.ntmps46
 go_wp2_with (first | ((with_reducible refine gate_dst (N := 1) rfl ?_); refine bxE 1 #[.int .i64 Aq, .int .i64 Ar, .slice Bl Af.length Bb] 28 ?_; intro Au hg w3 hbox hb; have Ac := aM (hbox); have D7 := gwS hg Z0; have Al := gwS hg Z0; replace HB := hbS Z0 hb; clear hb hbox hg) | ((with_reducible refine gate_dst (N := 11) rfl ?_); refine Kd.R_lit (Kd.int .i64) _ 3 ?hg (N := 11) ?hd (xs := ([(-1)] : List Int)) (inner := [.int .i64 (-1)]) (ok := fun _ => True) (okp := fun _ => True) ?hr ?hp (fun _ hk => hk) trivial (Below.refl _ _) (Nat.le_refl _) (by simp) ?_; (case hd => rfl); (case hg => rfl); (case hr => first | (go_simp; done) | (go_simp; rfl)); (case hp => exact (Reps.one (show Kd.M (Kd.int .i64) _ _ _ (-1) [.int .i64 (-1)] from rfl) (Reps.none _ _))); intro D9 w4 C8 hb hg_ hnew_; clear hg_ hnew_; (first | rw [← Cn.out] at C8 | (simp only [Int.reduceToNat] at C8; rw [← Cn.out] at C8)); have Bk := aM (Kd.R_lower C8 (below_size Z38)); replace Ac := bkB Ac hb; replace HB := hbS Z38 hb; clear hb C8; obtain ⟨Bw, Bx, Bz⟩ := bz3 Ac; obtain ⟨B0, B2, B5⟩ := fz3 Ac; obtain ⟨Ea, Eb, Ec⟩ := Kd.R_slice Bk.out; subst Ec) | ((with_reducible refine gate_callee (f := 79) rfl ?_); refine glE (some 15) Try.func79 #[.slice Ea Cu.length Eb, .int .i64 (Af.length : Int)] ?_; (with_reducible refine (slices_Repeat_int_int.calls _ _ Cu (Af.length : Int) Ax _ ?side1 ?side2 A2.out).mono ?_); (case side1 => exact (by repeat (first | exact (Kd.R_reads' Bk.out).2.2 | (with_reducible refine Kd.C_alloc ?_ _) | (with_reducible refine Kd.C_drewN ?_ _) | (with_reducible refine Kd.C_drew ?_)))); (case side2 => exact (Kd.R_reads' Bk.out).2.1); rintro e w8 ⟨Ed, rfl, Co, hb⟩; refine ⟨_, rfl, ?_⟩; have Cp := aM (Kd.R_lower (Kd.R_new' Co (Kd.R_lt Z189)) (below_size Z38)); replace Bk := aM (Kd.R_elder' Z189 (Kd.R_base Co) hb); replace Ac := bkB Ac hb; replace HB := hbS Z38 hb; (try clear hb); (try clear Co); obtain ⟨Ee, Cd, Ef⟩ := Kd.R_slice Cp.out; subst Ef))
 go_loopg [5, 18] k (fun kq v5 Eg w' => ∃ (Ba : List Int) (Az : Int) (Ab : Int), v5 = .int .i64 Az ∧ Eg = .int .i64 Ab ∧ Aside0 (impl_Chart_areas.l0 kq Ba Az (Ax.length : Int) Ab Aq Ar Af = some (r1, r2)) ∧ Aside0 (kq ≤ k) ∧ Aside0 (Kd.R (Kd.int .i64) 3 w' w.heap.size (fun _ => True) (.slice Ee Ax.length Cd) Ba) ∧ Aside0 (w'.heap[Au]? = some (.cells #[.int .i64 Aq, .int .i64 Ar, (.slice Bl Af.length Bb)] 28 (0, 0))) ∧ Aside0 (Below w.heap.size w w'))
 case atStart => exact ⟨(Ax), (0), (0), Z14, Z14, H', ⟨Nat.le_refl _⟩, ⟨by (with_reducible repeat (first | apply Kd.R_alloc | apply Kd.R_drewN | apply Kd.R_drew)); exact Kd.R_mono Cp.out (fun _ hk => trivial)⟩, ⟨Z40⟩, ⟨Z38⟩⟩
 case round =>
  clear H'; (try clear p2); (try clear c4); (try clear c7); (try clear Bw); (try clear Bx); (try clear Bz); (try clear B0); (try clear B2); (try clear B5); obtain ⟨Ba, Az, Ab, rfl, rfl, HA, HK1, Ag, Ac, HB⟩ := hrel; have Ae := (Kd.R_reads' Ag.out).1; rw [Ae] at Ag
  (try simp only [Ae])
  (try simp only [Ae] at Ac)
  cases gk with
  | zero => exact absurd HA.out (by simp [impl_Chart_areas.l0])
  | succ k1 =>
   have H := HA.out; clear HA
   simp only [impl_Chart_areas.l0] at H
   by_cases Cq : Ab < (Ax.length : Int)
   ·rw [if_pos Cq] at H
    have c10b0 : decide (Ab < (Ax.length : Int)) = true := decide_eq_true Cq
    (try simp only [Ae] at c10b0)
    clear Cq
    by_cases C3 : 0 ≤ Ab
    ·rw [if_pos C3] at H
     have c11b0 : decide (0 ≤ Ab) = true := decide_eq_true C3; clear C3
     by_cases C4 : Ab < (Ba.length : Int)
     ·rw [if_pos C4] at H
      have c12b0 : decide (Ab < (Ba.length : Int)) = true := decide_eq_true C4
      (try simp only [Ae] at c12b0)
      clear C4
      by_cases Cr : (rd Ba Ab) ≥ 0
      ·rw [if_pos Cr] at H
       have c13b0 : decide (0 ≤ (rd Ba Ab)) = true := decide_eq_true Cr; clear Cr; have H' := Aside0.mk H; clear H; have Bm : 0 ≤ (Ab : Int) := of_decide_eq_true Z3; have Bn : Ab < (Ba.length : Int) := of_decide_eq_true Z3; obtain ⟨ad212, e212, Bd⟩ := Kd.at_int (Kd.R_reads' Ag.out).2.2 Ab Bm Bn; cases e212; replace Bm := eq_true Bm; replace Bn := eq_true Bn
       go_wp2
       (try simp only [← Ae])
       go_roundg k1
       case measure => have := HK1.out; omega
       case rel => exact ⟨(Ba), (Az), (wrap64 (Ab + 1)), Z14, Z14, H', ⟨Z118⟩, ⟨by (try simp only [Ae]); (with_reducible repeat (first | apply Kd.R_alloc | apply Kd.R_drewN | apply Kd.R_drew)); exact Ag.out⟩, ⟨Z181⟩, ⟨Z38⟩⟩
      ·rw [if_neg Cr] at H
       have c13b0 : decide (0 ≤ (rd Ba Ab)) = false := decide_eq_false Cr; clear Cr; obtain ⟨Ch, Bs⟩ : ∃ y_ : List Int, y_ = (Ba.set (Ab : Int).toNat Az) := ⟨_, rfl⟩
       replace H : (impl_Chart_areas.l1 k1 Ch Az Ab (([Ab] : List Int)) 0 (Ax.length : Int) Ab Aq Ar Af) = some (r1, r2) := by first | (rw [Bs]; with_reducible exact H) | (have H2_ := (Option.bind_some _ _).symm.trans H; rw [Bs]; with_reducible exact H2_) | (have H2_ := (Option.bind_some _ _).symm.trans H; with_reducible exact H2_) | with_reducible exact H | (rw [Bs]; exact H) | exact H
       have C9 := Aside0.mk Bs; clear Bs; obtain ⟨Da, Bt⟩ : ∃ y_ : List Int, y_ = (([Ab] : List Int)) := ⟨_, rfl⟩
       replace H : (impl_Chart_areas.l1 k1 Ch Az Ab Da 0 (Ax.length : Int) Ab Aq Ar Af) = some (r1, r2) := by first | (rw [Bt]; with_reducible exact H) | (have H2_ := (Option.bind_some _ _).symm.trans H; rw [Bt]; with_reducible exact H2_) | (have H2_ := (Option.bind_some _ _).symm.trans H; with_reducible exact H2_) | with_reducible exact H | (rw [Bt]; exact H) | exact H
       have Cs := Aside0.mk Bt; clear Bt; have H' := Aside0.mk H; clear H; have Bm : 0 ≤ (Ab : Int) := of_decide_eq_true Z3; have Bn : Ab < (Ba.length : Int) := of_decide_eq_true Z3; obtain ⟨ad212, e212, Bd⟩ := Kd.at_int (Kd.R_reads' Ag.out).2.2 Ab Bm Bn; cases e212; replace Bm := eq_true Bm; replace Bn := eq_true Bn; have Cv : 0 ≤ (Ab : Int) := of_decide_eq_true Z3; have Cw : (Ab : Int) < ((Ba.length : Int) : Int) := of_decide_eq_true Z3; obtain ⟨Aw, Eh, Db, Dc, gl14, cl14, HG14⟩ := Kd.R_form Ag.out (by omega)
       (first | cases Db | (injection Db with ea_ en_ ec_; (first | subst ea_ | (injection ea_ with ea_; subst ea_)); subst ec_; clear en_))
       have Dd := Aside0.mk Dc; have Ei := Aside0.mk HG14; clear Dc gl14 HG14
       (first | simp only [add_plain] at Bd | skip)
       obtain ⟨Cg, Dv⟩ := Kd.R_celln 0 Ag.out (Ab : Int) Cv Cw; replace Cv := eq_true Cv; replace Cw := eq_true Cw; have Cx := Kd.R_putg Ag.out (Ab : Int) Az
       go_wp2_with (first | ((with_reducible refine gate_store (t := 3) (p := 29) rfl ?_); refine store_event (t := 3) (p := 29) (v := ?vo_w16) (w1 := (wr.setCell ⟨Aw, (Ab : Int).toNat, none⟩ (.int .i64 Az))) ?hg ?ho ?hn ?hr ?_; (case ho => rfl); (case hg => rfl); (case hn => rfl); (case hr => first | (go_simp; done) | (go_simp; rfl)); intro Dw hw; have hg : wr.grownBy Dw (some Aw) := (by rw [hw]; exact Cx.2); have hp_ : Kd.R (Kd.int .i64) 3 Dw w.heap.size (fun _ => True) (.slice (some ⟨Aw, 0, none⟩) Ba.length Cd) Ch := (by rw [hw, C9.out]; exact Cx.1); clear Cx; replace Ac := aM (blk_grown (g := Au) (o := .cells #[.int .i64 Aq, .int .i64 Ar, .slice Bl Af.length Bb] 28 (0, 0)) Z40 hg (Kd.R_ne Ag.out Ac.out (by decide))); replace Ag := aM (hp_); replace HB := aM ((Z197 : Below w.heap.size w Dw)); clear hg hw hp_) | ((with_reducible refine gate_dst (N := 31) rfl ?_); refine Kd.R_lit (Kd.int .i64) _ 3 ?hg (N := 31) ?hd (xs := ([Ab] : List Int)) (inner := [.int .i64 Ab]) (ok := fun _ => True) (okp := fun _ => True) ?hr ?hp (fun _ hk => hk) trivial (Below.refl _ _) (Nat.le_refl _) (by simp) ?_; (case hd => rfl); (case hg => rfl); (case hr => first | (go_simp; done) | (go_simp; rfl)); (case hp => exact (Reps.one (show Kd.M (Kd.int .i64) _ _ _ Ab [.int .i64 Ab] from rfl) (Reps.none _ _))); intro Ej Ey Cf hb hg_ hnew_; clear hg_ hnew_; (first | rw [← Cs.out] at Cf | (simp only [Int.reduceToNat] at Cf; rw [← Cs.out] at Cf)); have De := aM (Kd.R_lower (Kd.R_new' Cf (Kd.R_lt Z19)) (below_size Z38)); replace Ag := aM (Kd.R_elder' Z19 (Kd.R_base Cf) hb); replace Ac := bkB Ac hb; replace HB := hbS Z38 hb; clear hb Cf))
       go_loopg [7, 8] k1 (fun kq v7 v8 w' => ∃ (Bo : List Int) (Bc : List Int) (Ay : Int), v8 = .int .i64 Ay ∧ Aside0 (impl_Chart_areas.l1 kq Bo Az Ab Bc Ay (Ax.length : Int) Ab Aq Ar Af = some (r1, r2)) ∧ Aside0 (kq ≤ k1) ∧ Aside0 (Kd.R (Kd.int .i64) 3 w' w.heap.size (fun k_ => nV k_ v7) (.slice (some ⟨Aw, 0, none⟩) Ba.length Cd) Bo) ∧ Aside0 (Kd.R (Kd.int .i64) 3 w' w.heap.size (fun k_ => some k_ ≠ ((.slice (some ⟨Aw, 0, none⟩) Ba.length Cd) : Value).ownBlock) v7 Bc) ∧ Aside0 (w'.heap[Au]? = some (.cells #[.int .i64 Aq, .int .i64 Ar, (.slice Bl Af.length Bb)] 28 (0, 0))) ∧ Aside0 (Below w.heap.size w w'))
       case atStart => exact ⟨(Ch), (Da), (0), Z14, H', ⟨Nat.le_refl _⟩, ⟨by (try simp only [Ae]); (with_reducible repeat (first | apply Kd.R_alloc | apply Kd.R_drewN | apply Kd.R_drew)); exact Kd.R_mono Ag.out (fun _ hk => hk.2)⟩, ⟨by (try simp only [Ae]); (with_reducible repeat (first | apply Kd.R_alloc | apply Kd.R_drewN | apply Kd.R_drew)); exact Kd.R_mono De.out (fun _ hk => hk.2)⟩, ⟨Z181⟩, ⟨Z38⟩⟩
       case round =>
        clear H'; (try clear c1); (try clear p1); (try clear q1); (try clear Ek); (try clear El); (try clear p2); (try clear q2); (try clear Em); (try clear c4); (try clear p6); (try clear c7); (try clear Cq); (try clear c10b0); (try clear C3); (try clear c11b0); (try clear C4); (try clear c12b0); (try clear Cr); (try clear c13b0); (try clear Cv); (try clear Cw); (try clear Dx); (try clear Dy); (try clear Bw); (try clear Bx); (try clear Bz); (try clear B0); (try clear B2); (try clear B5); (try clear Cg); (try clear Bd); (try clear Cv); (try clear p2); (try clear Bm); (try clear Cw); (try clear Bn); obtain ⟨Bo, Bc, Ay, rfl, HA, HK2, Ag, Am, Ac, HB⟩ := hrel; have Ah := (Kd.R_reads' Ag.out).1; rw [Ah] at Ag
        (try simp only [Ah])
        (try simp only [Ah] at Ac)
        (try simp only [Ah] at Am)
        cases gk with
        | zero => exact absurd HA.out (by simp [impl_Chart_areas.l1])
        | succ k2 =>
         have H := HA.out; clear HA
         simp only [impl_Chart_areas.l1] at H
         by_cases Cy : Ay < (Bc.length : Int)
         ·rw [if_pos Cy] at H
          have c19b0 : decide (Ay < (Bc.length : Int)) = true := decide_eq_true Cy
          (try simp only [Ae, Ah] at c19b0)
          clear Cy
          by_cases Df : 0 ≤ Ay
          ·rw [if_pos Df] at H
           have c20b0 : decide (0 ≤ Ay) = true := decide_eq_true Df; clear Df; replace H := Option.bind_eq_some_iff.mp H; obtain ⟨Ad, Dg, H⟩ := H; replace H : (impl_Chart_areas.l2 k2 Bo Az Ab Bc Ay (Ax.length : Int) Ab Ad (Ad.length : Int) 0 Aq Ar Af) = some (r1, r2) := H; have En := Aside0.mk Dg; clear Dg; have H' := Aside0.mk H; clear H; obtain ⟨Eo, Ep, Dz⟩ := Kd.R_slice Am.out; subst Dz
           try go_wp2
           replace Ag := aM (Kd.R_drew Ag.out); replace Am := aM (Kd.R_drew Am.out); replace Ac := aM (blk_drew Ac.out); replace HB := aM (below_drew1 HB.out); have Ci : 0 ≤ (Ay : Int) := of_decide_eq_true Z3; have Cj : Ay < (Bc.length : Int) := of_decide_eq_true Z3; obtain ⟨ad217, e217, Bp⟩ := Kd.at_int (Kd.R_reads' Am.out).2.2 Ay Ci Cj; cases e217; replace Ci := eq_true Ci; replace Cj := eq_true Cj; refine start_ (n := 8) (S := fun w' => w'.cell? ⟨Au, 0, none⟩ = some (.int .i64 Aq) ∧ w'.cell? ⟨Au, 1, none⟩ = some (.int .i64 Ar) ∧ w'.cell? ⟨Au, 2, none⟩ = some (.slice Bl Af.length Bb) ∧ w'.cell? (ad217.add (Ay).toNat) = some (.int .i64 (rd Bc Ay))) (ds := []) #[false, false, false, false, false, false, false, false] Z61 rfl rfl ⟨(blk_cell Ac.out 0).trans rfl, (blk_cell Ac.out 1).trans rfl, (blk_cell Ac.out 2).trans rfl, Bp⟩ (fun hHeld => ?_); refine with_tabW impl_Chart_areas.tab11 impl_Chart_areas.bits11 (fun HT_ HW_ => ?_)
           generalize wr.drew = Ez at Ag Am Ac HB Bp hHeld ⊢
           refine puR 1 39 #[false, true, false, false, false, false, false, false] HT_ rfl rfl ?_; refine puR 2 40 #[false, true, true, false, false, false, false, false] HT_ rfl rfl ?_; refine puR 3 41 #[false, true, true, true, false, false, false, false] HT_ rfl rfl ?_; refine puR 7 45 #[false, true, true, true, false, false, false, true] HT_ rfl rfl ?_; refine taR 0 38 #[true, true, true, true, false, false, false, true] HT_ HW_ hHeld rfl rfl ?_; refine taR 4 42 #[true, true, true, true, true, false, false, true] HT_ HW_ hHeld rfl rfl ?_; refine one_ (i := 5) (N := some 43) #[true, true, true, true, true, true, false, true] rfl rfl (one_of HT_.out Z61) (by decide) (fun K hK => ?_); refine goes_ Try.func69 Z61 rfl #[.agg #[.int .i64 Aq, .int .i64 Ar, .slice Bl Af.length Bb], .int .i64 (rd Bc Ay)] (by rfl) rfl rfl Z55 ?_; (with_reducible refine (impl_Chart_besides.calls k2 Aq Ar _ _ Af (rd Bc Ay) Ad _ ?side1 ?side2 En.out).mono ?_); (case side1 => exact Z120); (case side2 => exact C7.out); rintro e E0 ⟨Er, rfl, Co, hb⟩; have HS3_ := (hb.cell (World.block_lt_of_cell? _ _ (hHeld.2.2.2))).trans (hHeld.2.2.2); refine ⟨_, rfl, ?_⟩; have Ct := aM (Kd.R_lower (Kd.R_new' (Kd.R_new' Co (Kd.R_lt Z19)) (Kd.R_lt Z112)) (below_size Z38)); replace Ag := aM (Kd.R_elder' Z19 (Kd.R_base Co) hb); replace Am := aM (Kd.R_elder' Z112 (Kd.R_base Co) hb); replace Ac := bkB Ac hb; replace HB := hbS Z38 hb; (try clear hb); (try clear hb2); (try clear hk); (try clear hi); (try clear Co); obtain ⟨Cz, B6, Dh⟩ := Kd.R_slice Ct.out
           (first | subst Dh | (injection Dh with f1_ f2_ f3_; have f4_ := f1_.symm; have f5_ := f3_.symm; clear f1_ f2_ f3_; subst f4_; subst f5_))
           refine hK.out _ _ (by exact ⟨(blk_cell Ac.out 0).trans rfl, (blk_cell Ac.out 1).trans rfl, (blk_cell Ac.out 2).trans rfl, HS3_⟩) (fun hHeld => ?_); clear hK K; refine noR 43 ?_; refine puR 6 44 #[true, true, true, true, true, true, true, true] HT_ rfl rfl ?_; refine done_ (done_of HT_.out Z61) ?_
           try go_wp2
           go_loopg [7, 45] k2 (fun kq v7 Es w' => ∃ (Ap : List Int) (Bf : List Int) (Aa : Int), Es = .int .i64 Aa ∧ Aside0 (impl_Chart_areas.l2 kq Ap Az Ab Bf Ay (Ax.length : Int) Ab Ad (Ad.length : Int) Aa Aq Ar Af = some (r1, r2)) ∧ Aside0 (kq ≤ k2) ∧ Aside0 (Kd.R (Kd.int .i64) 3 w' w.heap.size (fun k_ => nV k_ v7 ∧ nS k_ Cz Ad.length B6) (.slice (some ⟨Aw, 0, none⟩) Bo.length Cd) Ap) ∧ Aside0 (Kd.R (Kd.int .i64) 3 w' w.heap.size (fun k_ => some k_ ≠ ((.slice (some ⟨Aw, 0, none⟩) Bo.length Cd) : Value).ownBlock ∧ nS k_ Cz Ad.length B6) v7 Bf) ∧ Aside0 (Kd.R (Kd.int .i64) 3 w' w.heap.size (fun k_ => some k_ ≠ ((.slice (some ⟨Aw, 0, none⟩) Bo.length Cd) : Value).ownBlock ∧ nV k_ v7) (.slice Cz Ad.length B6) Ad) ∧ Aside0 (w'.heap[Au]? = some (.cells #[.int .i64 Aq, .int .i64 Ar, (.slice Bl Af.length Bb)] 28 (0, 0))) ∧ Aside0 (Below w.heap.size w w'))
           case atStart => exact ⟨(Bo), (Bc), (0), Z14, H', ⟨Nat.le_refl _⟩, ⟨by (try simp only [Ae]); (try simp only [Ah]); (with_reducible repeat (first | apply Kd.R_alloc | apply Kd.R_drewN | apply Kd.R_drew)); exact Ag.out⟩, ⟨by (try simp only [Ae]); (try simp only [Ah]); (with_reducible repeat (first | apply Kd.R_alloc | apply Kd.R_drewN | apply Kd.R_drew)); exact Am.out⟩, ⟨by (try simp only [Ae]); (try simp only [Ah]); (with_reducible repeat (first | apply Kd.R_alloc | apply Kd.R_drewN | apply Kd.R_drew)); exact Kd.R_mono Ct.out (fun _ hk => ⟨hk.1.2, hk.2⟩)⟩, ⟨Z151⟩, ⟨Z38⟩⟩
           case round =>
            clear H'; (try clear c1); (try clear p1); (try clear q1); (try clear Ek); (try clear El); (try clear c2); (try clear p2); (try clear q2); (try clear Em); (try clear c4); (try clear c6); (try clear p6); (try clear c7); (try clear Cq); (try clear c10b0); (try clear C3); (try clear c11b0); (try clear C4); (try clear c12b0); (try clear Cr); (try clear c13b0); (try clear Cv); (try clear Cw); (try clear Dx); (try clear Dy); (try clear Cy); (try clear c19b0); (try clear Df); (try clear c20b0); (try clear E2); (try clear E3); (try clear Et); (try clear Bw); (try clear Bx); (try clear Bz); (try clear B0); (try clear B2); (try clear B5); (try clear Cg); (try clear Bd); (try clear Bp); (try clear p1); (try clear Cv); (try clear p2); (try clear Bm); (try clear Ci); (try clear p6); (try clear q1); (try clear Cw); (try clear q2); (try clear Bn); (try clear Cj); obtain ⟨Ap, Bf, Aa, rfl, HA, HK3, Ag, Am, Ak, Ac, HB⟩ := hrel; have Ai := (Kd.R_reads' Ag.out).1; rw [Ai] at Ag
            (try simp only [Ai])
            (try simp only [Ai] at Ac)
            (try simp only [Ai] at Am)
            (try simp only [Ai] at Ak)
            cases gk with
            | zero => exact absurd HA.out (by simp [impl_Chart_areas.l2])
            | succ k3 =>
             have H := HA.out; clear HA
             simp only [impl_Chart_areas.l2] at H
             by_cases C5 : Aa < (Ad.length : Int)
             ·rw [if_pos C5] at H
              have c26b0 : decide (Aa < (Ad.length : Int)) = true := decide_eq_true C5
              (try simp only [Ae, Ah, Ai] at c26b0)
              clear C5
              by_cases Dm : 0 ≤ Aa
              ·rw [if_pos Dm] at H
               have c27b0 : decide (0 ≤ Aa) = true := decide_eq_true Dm; clear Dm
               by_cases Dn : Aa < (Ad.length : Int)
               ·rw [if_pos Dn] at H
                have c28b0 : decide (Aa < (Ad.length : Int)) = true := decide_eq_true Dn
                (try simp only [Ae, Ah, Ai] at c28b0)
                clear Dn
                by_cases Dp : 0 ≤ (rd Ad Aa)
                ·rw [if_pos Dp] at H
                 have c29b0 : decide (0 ≤ (rd Ad Aa)) = true := decide_eq_true Dp; clear Dp
                 by_cases Dq : (rd Ad Aa) < (Ap.length : Int)
                 ·rw [if_pos Dq] at H
                  have c30b0 : decide ((rd Ad Aa) < (Ap.length : Int)) = true := decide_eq_true Dq
                  (try simp only [Ae, Ah, Ai] at c30b0)
                  clear Dq
                  by_cases C6 : (rd Ap (rd Ad Aa)) < 0
                  ·rw [if_pos C6] at H
                   have c31b0 : decide ((rd Ap (rd Ad Aa)) < 0) = true := decide_eq_true C6; clear C6
                   by_cases Dr : (rd Ad Aa) < (Af.length : Int)
                   ·rw [if_pos Dr] at H
                    have c32b0 : decide ((rd Ad Aa) < (Af.length : Int)) = true := decide_eq_true Dr
                    (try simp only [Ae, Ah, Ai] at c32b0)
                    clear Dr
                    by_cases Ds : 0 ≤ Ab
                    ·rw [if_pos Ds] at H
                     have c33b0 : decide (0 ≤ Ab) = true := decide_eq_true Ds; clear Ds
                     by_cases Dt : Ab < (Af.length : Int)
                     ·rw [if_pos Dt] at H
                      have c34b0 : decide (Ab < (Af.length : Int)) = true := decide_eq_true Dt
                      (try simp only [Ae, Ah, Ai] at c34b0)
                      clear Dt
                      by_cases C0 : (rd Af (rd Ad Aa)) = (rd Af Ab)
                      ·rw [if_pos C0] at H
                       have c35b0 : ((rd Af (rd Ad Aa)) == (rd Af Ab)) = true := beq_iff_eq.mpr C0; have c35b1 : ((rd Af (rd Ad Aa)) != (rd Af Ab)) = false := bne_eq_false_iff_eq.mpr C0; clear C0; obtain ⟨Ck, Bu⟩ : ∃ y_ : List Int, y_ = (Ap.set ((rd Ad Aa) : Int).toNat Az) := ⟨_, rfl⟩
                       replace H : (if Bf.length < 17592186044416 then (impl_Chart_areas.l2 k3 Ck Az Ab (Bf ++ [rd Ad Aa]) Ay (Ax.length : Int) Ab Ad (Ad.length : Int) (wrap64 (Aa + 1)) Aq Ar Af) else (none)) = some (r1, r2) := by first | (rw [Bu]; with_reducible exact H) | (have H2_ := (Option.bind_some _ _).symm.trans H; rw [Bu]; with_reducible exact H2_) | (have H2_ := (Option.bind_some _ _).symm.trans H; with_reducible exact H2_) | with_reducible exact H | (rw [Bu]; exact H) | exact H
                       have Di := Aside0.mk Bu; clear Bu
                       by_cases Du : Bf.length < 17592186044416
                       ·rw [if_pos Du] at H
                        have LMc37 := Aside0.mk Du; clear Du; obtain ⟨Dj, Bv⟩ : ∃ y_ : List Int, y_ = (Bf ++ [rd Ad Aa]) := ⟨_, rfl⟩
                        replace H : (impl_Chart_areas.l2 k3 Ck Az Ab Dj Ay (Ax.length : Int) Ab Ad (Ad.length : Int) (wrap64 (Aa + 1)) Aq Ar Af) = some (r1, r2) := by first | (rw [Bv]; with_reducible exact H) | (have H2_ := (Option.bind_some _ _).symm.trans H; rw [Bv]; with_reducible exact H2_) | (have H2_ := (Option.bind_some _ _).symm.trans H; with_reducible exact H2_) | with_reducible exact H | (rw [Bv]; exact H) | exact H
                        have Dk := Aside0.mk Bv; clear Bv; have H' := Aside0.mk H; clear H; have Bg : 0 ≤ (Aa : Int) := of_decide_eq_true Z3; have Bh : Aa < (Ad.length : Int) := of_decide_eq_true Z3; obtain ⟨ad221, e221, Ce⟩ := Kd.at_int (Kd.R_reads' Ak.out).2.2 Aa Bg Bh; cases e221; replace Bg := eq_true Bg; replace Bh := eq_true Bh
                        try go_wp2
                        replace Ag := aM (Kd.R_drew Ag.out); replace Am := aM (Kd.R_drew Am.out); replace Ak := aM (Kd.R_drew Ak.out); replace Ac := aM (blk_drew Ac.out); replace HB := aM (below_drew1 HB.out); have Bi : 0 ≤ ((rd Ad Aa) : Int) := of_decide_eq_true Z3; have Bj : (rd Ad Aa) < (Ap.length : Int) := of_decide_eq_true Z3; obtain ⟨ad222, e222, Aj⟩ := Kd.at_int (Kd.R_reads' Ag.out).2.2 (rd Ad Aa) Bi Bj; obtain rfl : (⟨Aw, 0, none⟩ : Addr) = ad222 := (by injection e222)
                        (first | simp only [add_plain] at Aj | simp only [add_at] at Aj | simp only [Addr.add, Nat.zero_add] at Aj | skip)
                        replace Bi := eq_true Bi; replace Bj := eq_true Bj; have B7 : 0 ≤ ((rd Ad Aa) : Int) := of_decide_eq_true Z3; have Ca : (rd Ad Aa) < (Af.length : Int) := of_decide_eq_true Z3; obtain ⟨ad223, e223, An⟩ := Kd.at_int Bq.out (rd Ad Aa) B7 Ca; have hw223_0 := An; cases e223; replace An := (HB.out.cell (World.block_lt_of_cell? w _ An)).trans An; replace B7 := eq_true B7; replace Ca := eq_true Ca; have Cb : 0 ≤ (Ab : Int) := of_decide_eq_true Z3; have Cc : Ab < (Af.length : Int) := of_decide_eq_true Z3; obtain ⟨ad224, e224, Ao⟩ := Kd.at_int Bq.out Ab Cb Cc; have hw224_0 := Ao; obtain rfl : ad223 = ad224 := (by injection e224); replace Ao := (HB.out.cell (World.block_lt_of_cell? w _ Ao)).trans Ao; replace Cb := eq_true Cb; replace Cc := eq_true Cc; refine start_ (n := 18) (S := fun w' => w'.cell? ⟨Au, 0, none⟩ = some (.int .i64 Aq) ∧ w'.cell? ⟨Au, 1, none⟩ = some (.int .i64 Ar) ∧ w'.cell? ⟨Au, 2, none⟩ = some (.slice (some ad223) Af.length Bb) ∧ w'.cell? ⟨Aw, ((rd Ad Aa)).toNat, none⟩ = some (.int .i64 (rd Ap (rd Ad Aa))) ∧ w'.cell? (ad223.add ((rd Ad Aa)).toNat) = some (.int .i64 (rd Af (rd Ad Aa))) ∧ w'.cell? (ad223.add (Ab).toNat) = some (.int .i64 (rd Af Ab))) (ds := []) #[false, false, false, false, false, false, false, false, false, false, false, false, false, false, false, false, false, false] Z61 rfl rfl ⟨(blk_cell Ac.out 0).trans rfl, (blk_cell Ac.out 1).trans rfl, (blk_cell Ac.out 2).trans rfl, Aj, ((HB.out.cell (World.block_lt_of_cell? w _ hw223_0)).trans hw223_0), ((HB.out.cell (World.block_lt_of_cell? w _ hw224_0)).trans hw224_0)⟩ (fun hHeld => ?_); refine with_tabW impl_Chart_areas.tab14 impl_Chart_areas.bits14 (fun HT_ HW_ => ?_)
                        generalize wr.drew = D8 at Ag Am Ak Ac HB Aj An Ao hHeld ⊢
                        refine puR 0 49 #[true, false, false, false, false, false, false, false, false, false, false, false, false, false, false, false, false, false] HT_ rfl rfl ?_; refine puR 1 50 #[true, true, false, false, false, false, false, false, false, false, false, false, false, false, false, false, false, false] HT_ rfl rfl ?_; refine puR 2 51 #[true, true, true, false, false, false, false, false, false, false, false, false, false, false, false, false, false, false] HT_ rfl rfl ?_; refine taR 3 52 #[true, true, true, true, false, false, false, false, false, false, false, false, false, false, false, false, false, false] HT_ HW_ hHeld rfl rfl ?_; refine puR 4 53 #[true, true, true, true, true, false, false, false, false, false, false, false, false, false, false, false, false, false] HT_ rfl rfl ?_; refine puR 5 54 #[true, true, true, true, true, true, false, false, false, false, false, false, false, false, false, false, false, false] HT_ rfl rfl ?_; refine puR 6 55 #[true, true, true, true, true, true, true, false, false, false, false, false, false, false, false, false, false, false] HT_ rfl rfl ?_; refine puR 8 57 #[true, true, true, true, true, true, true, false, true, false, false, false, false, false, false, false, false, false] HT_ rfl rfl ?_; refine puR 11 60 #[true, true, true, true, true, true, true, false, true, false, false, true, false, false, false, false, false, false] HT_ rfl rfl ?_; refine puR 13 62 #[true, true, true, true, true, true, true, false, true, false, false, true, false, true, false, false, false, false] HT_ rfl rfl ?_; refine taR 7 56 #[true, true, true, true, true, true, true, true, true, false, false, true, false, true, false, false, false, false] HT_ HW_ hHeld rfl rfl ?_; refine puR 9 58 #[true, true, true, true, true, true, true, true, true, true, false, true, false, true, false, false, false, false] HT_ rfl rfl ?_; refine taR 10 59 #[true, true, true, true, true, true, true, true, true, true, true, true, false, true, false, false, false, false] HT_ HW_ hHeld rfl rfl ?_; refine taR 12 61 #[true, true, true, true, true, true, true, true, true, true, true, true, true, true, false, false, false, false] HT_ HW_ hHeld rfl rfl ?_; refine puR 14 63 #[true, true, true, true, true, true, true, true, true, true, true, true, true, true, true, false, false, false] HT_ rfl rfl ?_; refine taR 15 64 #[true, true, true, true, true, true, true, true, true, true, true, true, true, true, true, true, false, false] HT_ HW_ hHeld rfl rfl ?_; refine puR 16 65 #[true, true, true, true, true, true, true, true, true, true, true, true, true, true, true, true, true, false] HT_ rfl rfl ?_; refine puR 17 66 #[true, true, true, true, true, true, true, true, true, true, true, true, true, true, true, true, true, true] HT_ rfl rfl ?_; refine done_ (done_of HT_.out Z61) ?_; have D0 : 0 ≤ ((rd Ad Aa) : Int) := of_decide_eq_true Z3; have D1 : ((rd Ad Aa) : Int) < ((Ap.length : Int) : Int) := of_decide_eq_true Z3; obtain ⟨D2, D3⟩ := Kd.R_celln 0 Ag.out ((rd Ad Aa) : Int) D0 D1; replace D0 := eq_true D0; replace D1 := eq_true D1; obtain ⟨hy39_, hz39_⟩ := Kd.R_celln 0 Ag.out ((rd Ad Aa) : Int) (of_decide_eq_true Z3) (of_decide_eq_true Z3); have C1 := Kd.R_putg Ag.out ((rd Ad Aa) : Int) Az
                        try go_wp2_with (first | ((with_reducible refine gate_store (t := 3) (p := 70) rfl ?_); refine store_event (t := 3) (p := 70) (v := ?vo_w40) (w1 := (D8.setCell ⟨Aw, ((rd Ad Aa) : Int).toNat, none⟩ (.int .i64 Az))) ?hg ?ho ?hn ?hr ?_; (case ho => rfl); (case hg => rfl); (case hn => rfl); (case hr => first | (go_simp; done) | (go_simp; rfl)); intro D4 hw; have hg : D8.grownBy D4 (some Aw) := (by rw [hw]; exact C1.2); have hp_ : Kd.R (Kd.int .i64) 3 D4 w.heap.size (fun k_ => nV k_ u7 ∧ some k_ ≠ (.slice (some ad221) Ad.length B6 : Value).ownBlock) (.slice (some ⟨Aw, 0, none⟩) Ap.length Cd) Ck := (by rw [hw, Di.out]; exact C1.1); clear C1; replace Am := aM (Kd.R_after (v := (.slice (some ⟨Aw, 0, none⟩) Ap.length Cd)) (v1 := (.slice (some ⟨Aw, 0, none⟩) Ap.length Cd)) (ok := (fun k_ => some k_ ≠ (.slice (some ad221) Ad.length B6 : Value).ownBlock)) Z174 hg (.inl rfl)); replace Ak := aM (Kd.R_after (v := (.slice (some ⟨Aw, 0, none⟩) Ap.length Cd)) (v1 := (.slice (some ⟨Aw, 0, none⟩) Ap.length Cd)) (ok := (fun k_ => nV k_ u7)) Z175 hg (.inl rfl)); replace Ac := aM (blk_grown (g := Au) (o := .cells #[.int .i64 Aq, .int .i64 Ar, .slice (some ad223) Af.length Bb] 28 (0, 0)) Z40 hg (Kd.R_ne Ag.out Ac.out (by decide))); replace Ag := aM (hp_); replace HB := aM ((Z197 : Below w.heap.size w D4)); clear hg hw hp_) | ((with_reducible refine gate_builtin (b := .append) (xs := #[.tmp 71, .tmp 73]) rfl ?_); at_builtin; refine Kd.R_append (Kd.int .i64) (w0 := w) w.heap.size rfl (.tmp 71) (.tmp 73) 22 3 (.int .i64 0) 8 rfl Try.underlying22 info3 rfl (by decide) (by omega) u7 Bf (rd Ad Aa) [.int .i64 (rd Ad Aa)] (fun k_ => some k_ ≠ (.slice (some ⟨Aw, 0, none⟩) Ap.length Cd : Value).ownBlock ∧ some k_ ≠ (.slice (some ad221) Ad.length B6 : Value).ownBlock) (fun _ => False) rfl rfl ?aP (fun _ hk => hk.elim) ?aF ?aO ?aB ?aS ?aL ?_; (case aP => exact rfl); (case aB => exact Z38); (case aF => exact (fun k_ hk => ⟨Kd.fresh' (Kd.R_lt Z19) k_ hk, Kd.fresh' (Kd.R_lt Z51) k_ hk⟩)); (case aO => exact Z174); (case aS => exact (below_size Z38)); (case aL => have := LMc37.out; omega); intro Eu E4 ho hb hg hat; rw [← Dk.out] at ho; replace Ag := aM (Kd.R_after (ok := (fun k_ => some k_ ≠ (.slice (some ad221) Ad.length B6 : Value).ownBlock)) (by (with_reducible repeat (first | apply Kd.R_alloc | apply Kd.R_drewN | apply Kd.R_drew)); exact Kd.R_mono Ag.out (fun _ hk => ⟨hk.2, hk.1⟩)) hg hat); replace Ak := aM (Kd.R_after (ok := (fun k_ => some k_ ≠ (.slice (some ⟨Aw, 0, none⟩) Ap.length Cd : Value).ownBlock)) Z175 hg hat); replace Ac := aM (blk_grown (g := Au) (o := .cells #[.int .i64 Aq, .int .i64 Ar, .slice (some ad223) Af.length Bb] 28 (0, 0)) Z40 hg (Kd.R_ne Am.out Ac.out (by decide))); replace HB := aM (hb); have Dl := aM (ho); clear Am; clear ho hb hg hat))
                        (try simp only [← Ai])
                        go_roundg k3
                        case measure => have := HK1.out; have := HK2.out; have := HK3.out; omega
                        case rel => exact ⟨(Ck), (Dj), (wrap64 (Aa + 1)), Z14, H', ⟨Z168⟩, ⟨by (try simp only [Ae]); (try simp only [Ah]); (try simp only [Ai]); (with_reducible repeat (first | apply Kd.R_alloc | apply Kd.R_drewN | apply Kd.R_drew)); exact Kd.R_mono Ag.out (fun _ hk => ⟨hk.2, hk.1⟩)⟩, ⟨by (try simp only [Ae]); (try simp only [Ah]); (try simp only [Ai]); (with_reducible repeat (first | apply Kd.R_alloc | apply Kd.R_drewN | apply Kd.R_drew)); exact Dl.out⟩, ⟨Z131⟩, ⟨Z99⟩, ⟨Z38⟩⟩
                       ·rw [if_neg Du] at H
                        exact absurd H (by simp)
                      ·rw [if_neg C0] at H
                       have c35b0 : ((rd Af (rd Ad Aa)) == (rd Af Ab)) = false := beq_eq_false_iff_ne.mpr C0; have c35b1 : ((rd Af (rd Ad Aa)) != (rd Af Ab)) = true := bne_iff_ne.mpr C0; have H' := Aside0.mk H; clear H; have Bg : 0 ≤ (Aa : Int) := of_decide_eq_true Z3; have Bh : Aa < (Ad.length : Int) := of_decide_eq_true Z3; obtain ⟨ad221, e221, Ce⟩ := Kd.at_int (Kd.R_reads' Ak.out).2.2 Aa Bg Bh; cases e221; replace Bg := eq_true Bg; replace Bh := eq_true Bh
                       try go_wp2
                       replace Ag := aM (Kd.R_drew Ag.out); replace Am := aM (Kd.R_drew Am.out); replace Ak := aM (Kd.R_drew Ak.out); replace Ac := aM (blk_drew Ac.out); replace HB := aM (below_drew1 HB.out); have Bi : 0 ≤ ((rd Ad Aa) : Int) := of_decide_eq_true Z3; have Bj : (rd Ad Aa) < (Ap.length : Int) := of_decide_eq_true Z3; obtain ⟨ad222, e222, Aj⟩ := Kd.at_int (Kd.R_reads' Ag.out).2.2 (rd Ad Aa) Bi Bj; obtain rfl : (⟨Aw, 0, none⟩ : Addr) = ad222 := (by injection e222)
                       (first | simp only [add_plain] at Aj | simp only [add_at] at Aj | simp only [Addr.add, Nat.zero_add] at Aj | skip)
                       replace Bi := eq_true Bi; replace Bj := eq_true Bj; have B7 : 0 ≤ ((rd Ad Aa) : Int) := of_decide_eq_true Z3; have Ca : (rd Ad Aa) < (Af.length : Int) := of_decide_eq_true Z3; obtain ⟨ad223, e223, An⟩ := Kd.at_int Bq.out (rd Ad Aa) B7 Ca; have hw223_0 := An; cases e223; replace An := (HB.out.cell (World.block_lt_of_cell? w _ An)).trans An; replace B7 := eq_true B7; replace Ca := eq_true Ca; have Cb : 0 ≤ (Ab : Int) := of_decide_eq_true Z3; have Cc : Ab < (Af.length : Int) := of_decide_eq_true Z3; obtain ⟨ad224, e224, Ao⟩ := Kd.at_int Bq.out Ab Cb Cc; have hw224_0 := Ao; obtain rfl : ad223 = ad224 := (by injection e224); replace Ao := (HB.out.cell (World.block_lt_of_cell? w _ Ao)).trans Ao; replace Cb := eq_true Cb; replace Cc := eq_true Cc; refine start_ (n := 18) (S := fun w' => w'.cell? ⟨Au, 0, none⟩ = some (.int .i64 Aq) ∧ w'.cell? ⟨Au, 1, none⟩ = some (.int .i64 Ar) ∧ w'.cell? ⟨Au, 2, none⟩ = some (.slice (some ad223) Af.length Bb) ∧ w'.cell? ⟨Aw, ((rd Ad Aa)).toNat, none⟩ = some (.int .i64 (rd Ap (rd Ad Aa))) ∧ w'.cell? (ad223.add ((rd Ad Aa)).toNat) = some (.int .i64 (rd Af (rd Ad Aa))) ∧ w'.cell? (ad223.add (Ab).toNat) = some (.int .i64 (rd Af Ab))) (ds := []) #[false, false, false, false, false, false, false, false, false, false, false, false, false, false, false, false, false, false] Z61 rfl rfl ⟨(blk_cell Ac.out 0).trans rfl, (blk_cell Ac.out 1).trans rfl, (blk_cell Ac.out 2).trans rfl, Aj, ((HB.out.cell (World.block_lt_of_cell? w _ hw223_0)).trans hw223_0), ((HB.out.cell (World.block_lt_of_cell? w _ hw224_0)).trans hw224_0)⟩ (fun hHeld => ?_); refine with_tabW impl_Chart_areas.tab14 impl_Chart_areas.bits14 (fun HT_ HW_ => ?_)
                       generalize wr.drew = E5 at Ag Am Ak Ac HB Aj An Ao hHeld ⊢
                       refine puR 0 49 #[true, false, false, false, false, false, false, false, false, false, false, false, false, false, false, false, false, false] HT_ rfl rfl ?_; refine puR 1 50 #[true, true, false, false, false, false, false, false, false, false, false, false, false, false, false, false, false, false] HT_ rfl rfl ?_; refine puR 2 51 #[true, true, true, false, false, false, false, false, false, false, false, false, false, false, false, false, false, false] HT_ rfl rfl ?_; refine taR 3 52 #[true, true, true, true, false, false, false, false, false, false, false, false, false, false, false, false, false, false] HT_ HW_ hHeld rfl rfl ?_; refine puR 4 53 #[true, true, true, true, true, false, false, false, false, false, false, false, false, false, false, false, false, false] HT_ rfl rfl ?_; refine puR 5 54 #[true, true, true, true, true, true, false, false, false, false, false, false, false, false, false, false, false, false] HT_ rfl rfl ?_; refine puR 6 55 #[true, true, true, true, true, true, true, false, false, false, false, false, false, false, false, false, false, false] HT_ rfl rfl ?_; refine puR 8 57 #[true, true, true, true, true, true, true, false, true, false, false, false, false, false, false, false, false, false] HT_ rfl rfl ?_; refine puR 11 60 #[true, true, true, true, true, true, true, false, true, false, false, true, false, false, false, false, false, false] HT_ rfl rfl ?_; refine puR 13 62 #[true, true, true, true, true, true, true, false, true, false, false, true, false, true, false, false, false, false] HT_ rfl rfl ?_; refine taR 7 56 #[true, true, true, true, true, true, true, true, true, false, false, true, false, true, false, false, false, false] HT_ HW_ hHeld rfl rfl ?_; refine puR 9 58 #[true, true, true, true, true, true, true, true, true, true, false, true, false, true, false, false, false, false] HT_ rfl rfl ?_; refine taR 10 59 #[true, true, true, true, true, true, true, true, true, true, true, true, false, true, false, false, false, false] HT_ HW_ hHeld rfl rfl ?_; refine taR 12 61 #[true, true, true, true, true, true, true, true, true, true, true, true, true, true, false, false, false, false] HT_ HW_ hHeld rfl rfl ?_; refine puR 14 63 #[true, true, true, true, true, true, true, true, true, true, true, true, true, true, true, false, false, false] HT_ rfl rfl ?_; refine taR 15 64 #[true, true, true, true, true, true, true, true, true, true, true, true, true, true, true, true, false, false] HT_ HW_ hHeld rfl rfl ?_; refine puR 16 65 #[true, true, true, true, true, true, true, true, true, true, true, true, true, true, true, true, true, false] HT_ rfl rfl ?_; refine puR 17 66 #[true, true, true, true, true, true, true, true, true, true, true, true, true, true, true, true, true, true] HT_ rfl rfl ?_; refine done_ (done_of HT_.out Z61) ?_
                       try go_wp2
                       (try simp only [← Ai])
                       go_roundg k3
                       case measure => have := HK1.out; have := HK2.out; have := HK3.out; omega
                       case rel => exact ⟨(Ap), (Bf), (wrap64 (Aa + 1)), Z14, H', ⟨Z168⟩, ⟨Z147⟩, ⟨Z148⟩, ⟨Z131⟩, ⟨Z99⟩, ⟨Z38⟩⟩
                     ·rw [if_neg Dt] at H
                      exact absurd H (by simp)
                    ·rw [if_neg Ds] at H
                     exact absurd H (by simp)
                   ·rw [if_neg Dr] at H
                    exact absurd H (by simp)
                  ·rw [if_neg C6] at H
                   have c31b0 : decide ((rd Ap (rd Ad Aa)) < 0) = false := decide_eq_false C6; clear C6; have H' := Aside0.mk H; clear H; have Bg : 0 ≤ (Aa : Int) := of_decide_eq_true Z3; have Bh : Aa < (Ad.length : Int) := of_decide_eq_true Z3; obtain ⟨ad221, e221, Ce⟩ := Kd.at_int (Kd.R_reads' Ak.out).2.2 Aa Bg Bh; cases e221; replace Bg := eq_true Bg; replace Bh := eq_true Bh
                   try go_wp2
                   replace Ag := aM (Kd.R_drew Ag.out); replace Am := aM (Kd.R_drew Am.out); replace Ak := aM (Kd.R_drew Ak.out); replace Ac := aM (blk_drew Ac.out); replace HB := aM (below_drew1 HB.out); have Bi : 0 ≤ ((rd Ad Aa) : Int) := of_decide_eq_true Z3; have Bj : (rd Ad Aa) < (Ap.length : Int) := of_decide_eq_true Z3; obtain ⟨ad222, e222, Aj⟩ := Kd.at_int (Kd.R_reads' Ag.out).2.2 (rd Ad Aa) Bi Bj; obtain rfl : (⟨Aw, 0, none⟩ : Addr) = ad222 := (by injection e222)
                   (first | simp only [add_plain] at Aj | simp only [add_at] at Aj | simp only [Addr.add, Nat.zero_add] at Aj | skip)
                   replace Bi := eq_true Bi; replace Bj := eq_true Bj; refine start_ (n := 18) (S := fun w' => w'.cell? ⟨Aw, ((rd Ad Aa)).toNat, none⟩ = some (.int .i64 (rd Ap (rd Ad Aa)))) (ds := []) #[false, false, false, false, false, false, false, false, false, false, false, false, false, false, false, false, false, false] Z61 rfl rfl (Aj) (fun hHeld => ?_); refine with_tabW impl_Chart_areas.tab14 impl_Chart_areas.bits14 (fun HT_ HW_ => ?_)
                   generalize wr.drew = E6 at Ag Am Ak Ac HB Aj hHeld ⊢
                   refine puR 0 49 #[true, false, false, false, false, false, false, false, false, false, false, false, false, false, false, false, false, false] HT_ rfl rfl ?_; refine puR 1 50 #[true, true, false, false, false, false, false, false, false, false, false, false, false, false, false, false, false, false] HT_ rfl rfl ?_; refine puR 2 51 #[true, true, true, false, false, false, false, false, false, false, false, false, false, false, false, false, false, false] HT_ rfl rfl ?_; refine take_ (i := 3) (N := some 52) (v := ?_) (a' := ?_) #[true, true, true, true, false, false, false, false, false, false, false, false, false, false, false, false, false, false] rfl rfl (take_ofW HT_.out HW_.out Z61) (fun _ _ _ h => h) (Or.inl ⟨by rfl, ?_⟩) hHeld ?_ ?_
                   rotate_left
                   ·intro w' s0
                    go_simp
                    with_reducible rfl
                   rotate_left
                   ·exact Z32
                   refine puR 4 53 #[true, true, true, true, true, false, false, false, false, false, false, false, false, false, false, false, false, false] HT_ rfl rfl ?_; refine puR 5 54 #[true, true, true, true, true, true, false, false, false, false, false, false, false, false, false, false, false, false] HT_ rfl rfl ?_; refine pure_ (i := 6) (N := some 55) (v := undef) (a' := ?_) #[true, true, true, true, true, true, true, false, false, false, false, false, false, false, false, false, false, false] rfl rfl (any_of HT_.out Z61) (fun _ _ _ h => h) (Or.inr ⟨by rfl, rfl⟩) ?_ ?_
                   rotate_left
                   ·exact Z32
                   refine pure_ (i := 7) (N := some 56) (v := undef) (a' := ?_) #[true, true, true, true, true, true, true, true, false, false, false, false, false, false, false, false, false, false] rfl rfl (any_of HT_.out Z61) (fun _ _ _ h => h) (Or.inr ⟨by rfl, rfl⟩) ?_ ?_
                   rotate_left
                   ·exact Z32
                   refine pure_ (i := 8) (N := some 57) (v := undef) (a' := ?_) #[true, true, true, true, true, true, true, true, true, false, false, false, false, false, false, false, false, false] rfl rfl (any_of HT_.out Z61) (fun _ _ _ h => h) (Or.inr ⟨by rfl, rfl⟩) ?_ ?_
                   rotate_left
                   ·exact Z32
                   refine pure_ (i := 9) (N := some 58) (v := undef) (a' := ?_) #[true, true, true, true, true, true, true, true, true, true, false, false, false, false, false, false, false, false] rfl rfl (any_of HT_.out Z61) (fun _ _ _ h => h) (Or.inr ⟨by rfl, rfl⟩) ?_ ?_
                   rotate_left
                   ·exact Z32
                   refine pure_ (i := 10) (N := some 59) (v := undef) (a' := ?_) #[true, true, true, true, true, true, true, true, true, true, true, false, false, false, false, false, false, false] rfl rfl (any_of HT_.out Z61) (fun _ _ _ h => h) (Or.inr ⟨by rfl, rfl⟩) ?_ ?_
                   rotate_left
                   ·exact Z32
                   refine pure_ (i := 11) (N := some 60) (v := undef) (a' := ?_) #[true, true, true, true, true, true, true, true, true, true, true, true, false, false, false, false, false, false] rfl rfl (any_of HT_.out Z61) (fun _ _ _ h => h) (Or.inr ⟨by rfl, rfl⟩) ?_ ?_
                   rotate_left
                   ·exact Z32
                   refine pure_ (i := 12) (N := some 61) (v := undef) (a' := ?_) #[true, true, true, true, true, true, true, true, true, true, true, true, true, false, false, false, false, false] rfl rfl (any_of HT_.out Z61) (fun _ _ _ h => h) (Or.inr ⟨by rfl, rfl⟩) ?_ ?_
                   rotate_left
                   ·exact Z32
                   refine pure_ (i := 13) (N := some 62) (v := undef) (a' := ?_) #[true, true, true, true, true, true, true, true, true, true, true, true, true, true, false, false, false, false] rfl rfl (any_of HT_.out Z61) (fun _ _ _ h => h) (Or.inr ⟨by rfl, rfl⟩) ?_ ?_
                   rotate_left
                   ·exact Z32
                   refine pure_ (i := 14) (N := some 63) (v := undef) (a' := ?_) #[true, true, true, true, true, true, true, true, true, true, true, true, true, true, true, false, false, false] rfl rfl (any_of HT_.out Z61) (fun _ _ _ h => h) (Or.inr ⟨by rfl, rfl⟩) ?_ ?_
                   rotate_left
                   ·exact Z32
                   refine pure_ (i := 15) (N := some 64) (v := undef) (a' := ?_) #[true, true, true, true, true, true, true, true, true, true, true, true, true, true, true, true, false, false] rfl rfl (any_of HT_.out Z61) (fun _ _ _ h => h) (Or.inr ⟨by rfl, rfl⟩) ?_ ?_
                   rotate_left
                   ·exact Z32
                   refine pure_ (i := 16) (N := some 65) (v := undef) (a' := ?_) #[true, true, true, true, true, true, true, true, true, true, true, true, true, true, true, true, true, false] rfl rfl (any_of HT_.out Z61) (fun _ _ _ h => h) (Or.inr ⟨by rfl, rfl⟩) ?_ ?_
                   rotate_left
                   ·exact Z32
                   refine puR 17 66 #[true, true, true, true, true, true, true, true, true, true, true, true, true, true, true, true, true, true] HT_ rfl rfl ?_; refine done_ (done_of HT_.out Z61) ?_
                   try go_wp2
                   (try simp only [← Ai])
                   go_roundg k3
                   case measure => have := HK1.out; have := HK2.out; have := HK3.out; omega
                   case rel => exact ⟨(Ap), (Bf), (wrap64 (Aa + 1)), Z14, H', ⟨Z168⟩, ⟨Z147⟩, ⟨Z148⟩, ⟨Z131⟩, ⟨Z99⟩, ⟨Z38⟩⟩
                 ·rw [if_neg Dq] at H
                  exact absurd H (by simp)
                ·rw [if_neg Dp] at H
                 exact absurd H (by simp)
               ·rw [if_neg Dn] at H
                exact absurd H (by simp)
              ·rw [if_neg Dm] at H
               exact absurd H (by simp)
             ·rw [if_neg C5] at H
              have c26b0 : decide (Aa < (Ad.length : Int)) = false := decide_eq_false C5
              (try simp only [Ae, Ah, Ai] at c26b0)
              clear C5; have H' := Aside0.mk H; clear H
              go_wp2
              (try simp only [← Ah, ← Ai])
              go_roundg k3
              case measure => have := HK1.out; have := HK2.out; have := HK3.out; omega
              case rel => exact ⟨(Ap), (Bf), (wrap64 (Ay + 1)), Z14, H', ⟨Z168⟩, ⟨by (try simp only [Ae]); (try simp only [Ah]); (try simp only [Ai]); (with_reducible repeat (first | apply Kd.R_alloc | apply Kd.R_drewN | apply Kd.R_drew)); exact Kd.R_mono Ag.out (fun _ hk => hk.1)⟩, ⟨by (try simp only [Ae]); (try simp only [Ah]); (try simp only [Ai]); (with_reducible repeat (first | apply Kd.R_alloc | apply Kd.R_drewN | apply Kd.R_drew)); exact Kd.R_mono Am.out (fun _ hk => hk.1)⟩, ⟨Z99⟩, ⟨Z38⟩⟩
          ·rw [if_neg Df] at H
           exact absurd H (by simp)
         ·rw [if_neg Cy] at H
          have c19b0 : decide (Ay < (Bc.length : Int)) = false := decide_eq_false Cy
          (try simp only [Ae, Ah] at c19b0)
          clear Cy; have H' := Aside0.mk H; clear H; obtain ⟨Ew, Ex, D5⟩ := Kd.R_slice Am.out; subst D5
          go_wp2
          (try simp only [← Ae, ← Ah])
          go_roundg k2
          case measure => have := HK1.out; have := HK2.out; omega
          case rel => exact ⟨(Bo), (wrap64 (Az + 1)), (wrap64 (Ab + 1)), Z14, Z14, H', ⟨Z152⟩, ⟨by (try simp only [Ae]); (try simp only [Ah]); (with_reducible repeat (first | apply Kd.R_alloc | apply Kd.R_drewN | apply Kd.R_drew)); exact Kd.R_mono Ag.out (fun _ hk => trivial)⟩, ⟨Z151⟩, ⟨Z38⟩⟩
     ·rw [if_neg C4] at H
      exact absurd H (by simp)
    ·rw [if_neg C3] at H
     exact absurd H (by simp)
   ·rw [if_neg Cq] at H
    have c10b0 : decide (Ab < (Ax.length : Int)) = false := decide_eq_false Cq
    (try simp only [Ae] at c10b0)
    clear Cq
    simp only [Option.some.injEq, Prod.mk.injEq] at H
    obtain ⟨rfl, rfl⟩ := H
    go_wp2
    go_ret2
    exact ⟨_, Z10, Z19, Z38⟩
def impl_Chart_sizes.l0 : Nat → List Int → List Int → List Int → Int → Int → Int → Int → List Int → Option (List Int × List Int)
 | 0, _, _, _, _, _, _, _, _ => none
 | k + 1, x4, x6, x7, x20, x21, x230000, x230001, x230002 => if x21 < x20 then (if 0 ≤ x21 then (if x21 < (x4.length : Int) then (if 0 ≤ (rd x4 x21) then (if (rd x4 x21) < (x6.length : Int) then (if x21 < (x230002.length : Int) then (if (rd x4 x21) < (x7.length : Int) then (impl_Chart_sizes.l0 k x4 (x6.set ((rd x4 x21) : Int).toNat (wrap64 ((rd x6 (rd x4 x21)) + 1))) (x7.set ((rd x4 x21) : Int).toNat (rd x230002 x21)) x20 (wrap64 (x21 + 1)) x230000 x230001 x230002) else (none)) else (none)) else (none)) else (none)) else (none)) else (none)) else (some (x6, x7))
def impl_Chart_sizes.f (k : Nat) (a0_0 : Int) (a0_1 : Int) (l0_2 : List Int) : Option (List Int × List Int) := (impl_Chart_areas.f k a0_0 a0_1 l0_2).bind fun bt230 => (if 0 ≤ bt230.2 then (if (bt230.2 : Int).toNat ≤ 35184372088832 then (impl_Chart_sizes.l0 k bt230.1 (List.replicate (bt230.2 : Int).toNat 0) (List.replicate (bt230.2 : Int).toNat 0) (bt230.1.length : Int) 0 a0_0 a0_1 l0_2) else (none)) else (none))
theorem impl_Chart_sizes.calls (k : Nat) (Ah : Int) (Ai : Int) (Ba : Option Addr) (Ax : Nat) (Ae : List Int) (r1 : List Int) (r2 : List Int) (w : World) (Bt : Kd.C (Kd.int .i64) w Ba Ae.length Ae) (Bu : Ae.length ≤ Ax) (h : impl_Chart_sizes.f k Ah Ai Ae = some (r1, r2)) :
  Calls Try.prog 48 #[.agg #[.int .i64 Ah, .int .i64 Ai, .slice Ba Ae.length Ax]] w fun e w' => ∃ v0_ v1_ : Value, e = .returned (.tuple #[v0_, v1_]) ∧ Kd.R (Kd.int .i64) 3 w' w.heap.size (fun k_ => nV k_ v1_) v0_ r1 ∧ Kd.R (Kd.int .i64) 3 w' w.heap.size (fun k_ => nV k_ v0_) v1_ r2 ∧ Below w.heap.size w w' := by
 have hu28 := Try.underlying28; have Bv := Aside0.mk Bt; have Cj := Aside0.mk Bu; clear Bt Bu; have HB := aM (Below.refl w.heap.size w); have H : ((impl_Chart_areas.f k Ah Ai Ae).bind fun Aw => (if 0 ≤ Aw.2 then (if (Aw.2 : Int).toNat ≤ 35184372088832 then (impl_Chart_sizes.l0 k Aw.1 (List.replicate (Aw.2 : Int).toNat 0) (List.replicate (Aw.2 : Int).toNat 0) (Aw.1.length : Int) 0 Ah Ai Ae) else (none)) else (none))) = some (r1, r2) := h; clear h; replace H := Option.bind_eq_some_iff.mp H; obtain ⟨⟨Ab, Ag⟩, Dj, H⟩ := H; replace H : (if 0 ≤ Ag then (if (Ag : Int).toNat ≤ 35184372088832 then (impl_Chart_sizes.l0 k Ab (List.replicate (Ag : Int).toNat 0) (List.replicate (Ag : Int).toNat 0) (Ab.length : Int) 0 Ah Ai Ae) else (none)) else (none)) = some (r1, r2) := H; have A2 := Aside0.mk Dj; clear Dj
 by_cases c3 : 0 ≤ Ag
 ·rw [if_pos c3] at H
  have c3b0 := eq_true c3; have c3b1 : decide (0 ≤ Ag) = true := decide_eq_true c3; clear c3
  by_cases c4 : (Ag : Int).toNat ≤ 35184372088832
  ·rw [if_pos c4] at H
   have c4b0 := eq_true c4; have c4b1 : decide ((Ag : Int).toNat ≤ 35184372088832) = true := decide_eq_true c4; clear c4; obtain ⟨Bo, Bb⟩ : ∃ y_ : List Int, y_ = (List.replicate (Ag : Int).toNat 0) := ⟨_, rfl⟩
   replace H : (impl_Chart_sizes.l0 k Ab Bo (List.replicate (Ag : Int).toNat 0) (Ab.length : Int) 0 Ah Ai Ae) = some (r1, r2) := by first | (rw [Bb]; with_reducible exact H) | (have H2_ := (Option.bind_some _ _).symm.trans H; rw [Bb]; with_reducible exact H2_) | (have H2_ := (Option.bind_some _ _).symm.trans H; with_reducible exact H2_) | with_reducible exact H | (rw [Bb]; exact H) | exact H
   have Bk := Aside0.mk Bb; clear Bb; obtain ⟨Bq, Bc⟩ : ∃ y_ : List Int, y_ = (List.replicate (Ag : Int).toNat 0) := ⟨_, rfl⟩
   replace H : (impl_Chart_sizes.l0 k Ab Bo Bq (Ab.length : Int) 0 Ah Ai Ae) = some (r1, r2) := by first | (rw [Bc]; with_reducible exact H) | (have H2_ := (Option.bind_some _ _).symm.trans H; rw [Bc]; with_reducible exact H2_) | (have H2_ := (Option.bind_some _ _).symm.trans H; with_reducible exact H2_) | with_reducible exact H | (rw [Bc]; exact H) | exact H
   have Bl := Aside0.mk Bc; clear Bc; have H' := Aside0.mk H; clear H
   go_enter Try.func48, Try.ntmps48
   try go_wp2_with (first | ((with_reducible refine gate_dst (N := 1) rfl ?_); refine bxE 1 #[.int .i64 Ah, .int .i64 Ai, .slice Ba Ae.length Ax] 28 ?_; intro Bd hg w5 hbox hb; have Ac := aM (hbox); have Dk := gwS hg Z0; have Af := gwS hg Z0; replace HB := hbS Z0 hb; clear hb hbox hg; obtain ⟨Bw, Bx, Bz⟩ := bz3 Ac; obtain ⟨B0, B2, B5⟩ := fz3 Ac) | ((with_reducible refine gate_callee (f := 46) rfl ?_); refine glE (some 12) Try.func46 #[.agg #[.int .i64 Ah, .int .i64 Ai, .slice Ba Ae.length Ax]] ?_; (with_reducible refine (impl_Chart_areas.calls k Ah Ai _ _ Ae Ab Ag _ ?side1 ?side2 A2.out).mono ?_); (case side1 => exact Z141); (case side2 => exact Cj.out); rintro e w7 ⟨Bm, rfl, Dl, hb⟩; refine ⟨_, rfl, ?_⟩; have Ad := aM (Kd.R_lower Dl (below_size Z4)); replace Ac := bkB Ac hb; replace HB := hbS Z4 hb; (try clear hb); (try clear Dl)))
   replace Ad := aM (Kd.R_drew Ad.out); replace Ac := aM (blk_drew Ac.out); replace HB := aM (below_drew1 HB.out); refine start_ (n := 6) (S := fun w' => True) (ds := []) #[false, false, false, false, false, false] Z61 rfl rfl trivial (fun hHeld => ?_)
   generalize w7.drew = w8 at Ad Ac HB hHeld ⊢
   refine puK 0 15 #[true, false, false, false, false, false] rfl rfl ?_; refine puK 2 17 #[true, false, true, false, false, false] rfl rfl ?_; refine join_ (σ := Value × Value) 1 #[true, true, true, true, true, false] (fun s_ => [(16, s_.1), (18, s_.2), (6, s_.1)]) (fun s_ w' => (Kd.R (Kd.int .i64) 3 w' w.heap.size (fun k_ => some k_ ≠ (s_.1 : Value).ownBlock ∧ some k_ ≠ (s_.2 : Value).ownBlock) Bm Ab) ∧ (Kd.R (Kd.int .i64) 3 w' w.heap.size (fun k_ => nV k_ Bm ∧ some k_ ≠ (s_.2 : Value).ownBlock) s_.1 Bo) ∧ (Kd.R (Kd.int .i64) 3 w' w.heap.size (fun k_ => nV k_ Bm ∧ some k_ ≠ (s_.1 : Value).ownBlock) s_.2 Bq) ∧ (w'.heap[Bd]? = some (.cells #[.int .i64 Ah, .int .i64 Ai, .slice Ba Ae.length Ax] 28 (0, 0))) ∧ (Below w.heap.size w w')) ?_ ?_
   rotate_left
   ·intro hCont
    refine two_ (i := 1) (j := 3) (Ni := some 16) (Nj := some 18) #[true, true, true, false, false, false] #[true, false, true, true, false, false] rfl rfl rfl rfl Z61 (by decide) (by decide) (fun K hK => ?_) (fun K hK => ?_)
    ·skip
     refine Kd.R_make_step (Kd.int .i64) _ 3 (by rfl) (N := 16) rfl 22 _ _ rfl Ag rfl rfl Try.underlying22 (.int .i64 0) 8 info3 rfl (by decide) (by omega) 0 (ok := fun _ => True) (okp := fun _ => True) rfl (fun _ hk => hk) trivial (of_decide_eq_true Z3) (Nat.le_trans (Nat.mul_le_mul_right _ (of_decide_eq_true Z3 : Ag.toNat ≤ 35184372088832)) (by omega)) (Below.refl _ _) (Nat.le_refl _) ?_; intro Ar w9 Am hb hg_ hnew_; clear hg_ hnew_
     (first | rw [← Bk.out] at Am | (simp only [Int.reduceToNat] at Am; rw [← Bk.out] at Am))
     have An := aM (Kd.R_lower (Kd.R_new' Am (Kd.R_lt Z35)) (below_size Z4)); replace Ad := aM (Kd.R_elder' Z35 (Kd.R_base Am) hb); replace Ac := bkB Ac hb; replace HB := hbS Z4 hb; clear hb Am; refine hK.out _ _ trivial (fun hHeld => ?_); clear hK K; refine noR 16 ?_; refine puK 4 6 #[true, true, true, false, true, false] rfl rfl ?_; refine one_ (i := 3) (N := some 18) #[true, true, true, true, true, false] rfl rfl Z61 (by decide) (fun K hK => ?_); refine Kd.R_make_step (Kd.int .i64) _ 3 (by rfl) (N := 18) rfl 22 _ _ rfl Ag rfl rfl Try.underlying22 (.int .i64 0) 8 info3 rfl (by decide) (by omega) 0 (ok := fun _ => True) (okp := fun _ => True) rfl (fun _ hk => hk) trivial (of_decide_eq_true Z3) (Nat.le_trans (Nat.mul_le_mul_right _ (of_decide_eq_true Z3 : Ag.toNat ≤ 35184372088832)) (by omega)) (Below.refl _ _) (Nat.le_refl _) ?_; intro Ap Dm Ak hb hg_ hnew_; clear hg_ hnew_
     (first | rw [← Bl.out] at Ak | (simp only [Int.reduceToNat] at Ak; rw [← Bl.out] at Ak))
     have Ao := aM (Kd.R_lower (Kd.R_new' (Kd.R_new' Ak (Kd.R_lt Z35)) (Kd.R_lt Z110)) (below_size Z4)); replace Ad := aM (Kd.R_elder' Z35 (Kd.R_base Ak) hb); replace An := aM (Kd.R_elder' Z110 (Kd.R_base Ak) hb); replace Ac := bkB Ac hb; replace HB := hbS Z4 hb; clear hb Ak; refine hK.out _ _ trivial (fun hHeld => ?_); clear hK K; refine noR 18 ?_
     exact norm_ Z115 (hCont (Ar, Ap) _ ⟨Z169, Z116, Z117, Z40, Z4⟩)
    ·skip
     refine Kd.R_make_step (Kd.int .i64) _ 3 (by rfl) (N := 18) rfl 22 _ _ rfl Ag rfl rfl Try.underlying22 (.int .i64 0) 8 info3 rfl (by decide) (by omega) 0 (ok := fun _ => True) (okp := fun _ => True) rfl (fun _ hk => hk) trivial (of_decide_eq_true Z3) (Nat.le_trans (Nat.mul_le_mul_right _ (of_decide_eq_true Z3 : Ag.toNat ≤ 35184372088832)) (by omega)) (Below.refl _ _) (Nat.le_refl _) ?_; intro Ap w9 Am hb hg_ hnew_; clear hg_ hnew_
     (first | rw [← Bl.out] at Am | (simp only [Int.reduceToNat] at Am; rw [← Bl.out] at Am))
     have Ao := aM (Kd.R_lower (Kd.R_new' Am (Kd.R_lt Z35)) (below_size Z4)); replace Ad := aM (Kd.R_elder' Z35 (Kd.R_base Am) hb); replace Ac := bkB Ac hb; replace HB := hbS Z4 hb; clear hb Am; refine hK.out _ _ trivial (fun hHeld => ?_); clear hK K; refine noR 18 ?_; refine one_ (i := 1) (N := some 16) #[true, true, true, true, false, false] rfl rfl Z61 (by decide) (fun K hK => ?_); refine Kd.R_make_step (Kd.int .i64) _ 3 (by rfl) (N := 16) rfl 22 _ _ rfl Ag rfl rfl Try.underlying22 (.int .i64 0) 8 info3 rfl (by decide) (by omega) 0 (ok := fun _ => True) (okp := fun _ => True) rfl (fun _ hk => hk) trivial (of_decide_eq_true Z3) (Nat.le_trans (Nat.mul_le_mul_right _ (of_decide_eq_true Z3 : Ag.toNat ≤ 35184372088832)) (by omega)) (Below.refl _ _) (Nat.le_refl _) ?_; intro Ar Dm Ak hb hg_ hnew_; clear hg_ hnew_
     (first | rw [← Bk.out] at Ak | (simp only [Int.reduceToNat] at Ak; rw [← Bk.out] at Ak))
     have An := aM (Kd.R_lower (Kd.R_new' (Kd.R_new' Ak (Kd.R_lt Z35)) (Kd.R_lt Z81)) (below_size Z4)); replace Ad := aM (Kd.R_elder' Z35 (Kd.R_base Ak) hb); replace Ao := aM (Kd.R_elder' Z81 (Kd.R_base Ak) hb); replace Ac := bkB Ac hb; replace HB := hbS Z4 hb; clear hb Ak; refine hK.out _ _ trivial (fun hHeld => ?_); clear hK K; refine noR 16 ?_; refine puK 4 6 #[true, true, true, true, true, false] rfl rfl ?_
     exact norm_ Z115 (hCont (Ar, Ap) _ ⟨Z170, Z116, Z117, Z40, Z4⟩)
   rintro ⟨Ar, Ap⟩ Ck ⟨h0_, h1_, h2_, h3_, h4_⟩; have n0_ : Aside0 (Kd.R (Kd.int .i64) 3 Ck w.heap.size (fun k_ => nV k_ Ar ∧ nV k_ Ap) Bm Ab) := ⟨h0_⟩; have n1_ : Aside0 (Kd.R (Kd.int .i64) 3 Ck w.heap.size (fun k_ => nV k_ Bm ∧ nV k_ Ap) Ar Bo) := ⟨h1_⟩; have n2_ : Aside0 (Kd.R (Kd.int .i64) 3 Ck w.heap.size (fun k_ => nV k_ Bm ∧ nV k_ Ar) Ap Bq) := ⟨h2_⟩; have n3_ : Aside0 (Ck.heap[Bd]? = some (.cells #[.int .i64 Ah, .int .i64 Ai, .slice Ba Ae.length Ax] 28 (0, 0))) := ⟨h3_⟩; have n4_ : Aside0 (Below w.heap.size w Ck) := ⟨h4_⟩; clear Ad; clear Ac; clear HB; clear h0_ h1_ h2_ h3_ h4_; have Ad := n0_; have An := n1_; have Ao := n2_; have Ac := n3_; have HB := n4_; clear n0_ n1_ n2_ n3_ n4_; have hHeld := trivial; refine norm_ (a' := ?_) ?_ ?_
   rotate_left
   ·simp only [putAll, Act.put, List.setIfInBounds_toArray, List.set_cons_zero, List.set_cons_succ]
    rfl
   refine puK 5 7 #[true, true, true, true, true, true] rfl rfl ?_; refine done_ Z61 ?_; obtain ⟨B6, Bh, C6⟩ := Kd.R_slice Ad.out; subst C6
   try go_wp2
   go_loopg [21] k (fun kq Dn w' => ∃ (Aj : List Int) (Al : List Int) (Aa : Int), Dn = .int .i64 Aa ∧ Aside0 (impl_Chart_sizes.l0 kq Ab Aj Al (Ab.length : Int) Aa Ah Ai Ae = some (r1, r2)) ∧ Aside0 (kq ≤ k) ∧ Aside0 (Kd.R (Kd.int .i64) 3 w' w.heap.size (fun k_ => nV k_ Ar ∧ nV k_ Ap) (.slice B6 Ab.length Bh) Ab) ∧ Aside0 (Kd.R (Kd.int .i64) 3 w' w.heap.size (fun k_ => nS k_ B6 Ab.length Bh ∧ nV k_ Ap) Ar Aj) ∧ Aside0 (Kd.R (Kd.int .i64) 3 w' w.heap.size (fun k_ => nS k_ B6 Ab.length Bh ∧ nV k_ Ar) Ap Al) ∧ Aside0 (w'.heap[Bd]? = some (.cells #[.int .i64 Ah, .int .i64 Ai, (.slice Ba Ae.length Ax)] 28 (0, 0))) ∧ Aside0 (Below w.heap.size w w'))
   case atStart => exact ⟨(Bo), (Bq), (0), Z14, H', ⟨Nat.le_refl _⟩, ⟨Z35⟩, ⟨Z110⟩, ⟨Z81⟩, ⟨Z40⟩, ⟨Z4⟩⟩
   case round =>
    clear H'; (try clear p2); (try clear c3); (try clear c3b0); (try clear c3b1); (try clear c4); (try clear c4b0); (try clear c4b1); (try clear Bw); (try clear Bx); (try clear Bz); (try clear B0); (try clear B2); (try clear B5); obtain ⟨Aj, Al, Aa, rfl, HA, HK1, Bn, Aq, Au, Ac, HB⟩ := hrel; cases gk with
    | zero => exact absurd HA.out (by simp [impl_Chart_sizes.l0])
    | succ k1 =>
     have H := HA.out; clear HA
     simp only [impl_Chart_sizes.l0] at H
     by_cases Ci : Aa < (Ab.length : Int)
     ·rw [if_pos Ci] at H
      have c15b0 : decide (Aa < (Ab.length : Int)) = true := decide_eq_true Ci; clear Ci
      by_cases Cs : 0 ≤ Aa
      ·rw [if_pos Cs] at H
       have c16b0 : decide (0 ≤ Aa) = true := decide_eq_true Cs; clear Cs
       by_cases Ct : Aa < (Ab.length : Int)
       ·rw [if_pos Ct] at H
        have c17b0 : decide (Aa < (Ab.length : Int)) = true := decide_eq_true Ct; clear Ct
        by_cases Cu : 0 ≤ (rd Ab Aa)
        ·rw [if_pos Cu] at H
         have c18b0 : decide (0 ≤ (rd Ab Aa)) = true := decide_eq_true Cu; clear Cu
         by_cases Cv : (rd Ab Aa) < (Aj.length : Int)
         ·rw [if_pos Cv] at H
          have c19b0 : decide ((rd Ab Aa) < (Aj.length : Int)) = true := decide_eq_true Cv; clear Cv; obtain ⟨Br, Bf⟩ : ∃ y_ : List Int, y_ = (Aj.set ((rd Ab Aa) : Int).toNat (wrap64 ((rd Aj (rd Ab Aa)) + 1))) := ⟨_, rfl⟩
          replace H : (if Aa < (Ae.length : Int) then (if (rd Ab Aa) < (Al.length : Int) then (impl_Chart_sizes.l0 k1 Ab Br (Al.set ((rd Ab Aa) : Int).toNat (rd Ae Aa)) (Ab.length : Int) (wrap64 (Aa + 1)) Ah Ai Ae) else (none)) else (none)) = some (r1, r2) := by first | (rw [Bf]; with_reducible exact H) | (have H2_ := (Option.bind_some _ _).symm.trans H; rw [Bf]; with_reducible exact H2_) | (have H2_ := (Option.bind_some _ _).symm.trans H; with_reducible exact H2_) | with_reducible exact H | (rw [Bf]; exact H) | exact H
          have Cl := Aside0.mk Bf; clear Bf
          by_cases Cw : Aa < (Ae.length : Int)
          ·rw [if_pos Cw] at H
           have c21b0 : decide (Aa < (Ae.length : Int)) = true := decide_eq_true Cw; clear Cw
           by_cases Cx : (rd Ab Aa) < (Al.length : Int)
           ·rw [if_pos Cx] at H
            have c22b0 : decide ((rd Ab Aa) < (Al.length : Int)) = true := decide_eq_true Cx; clear Cx; obtain ⟨B7, Bg⟩ : ∃ y_ : List Int, y_ = (Al.set ((rd Ab Aa) : Int).toNat (rd Ae Aa)) := ⟨_, rfl⟩
            replace H : (impl_Chart_sizes.l0 k1 Ab Br B7 (Ab.length : Int) (wrap64 (Aa + 1)) Ah Ai Ae) = some (r1, r2) := by first | (rw [Bg]; with_reducible exact H) | (have H2_ := (Option.bind_some _ _).symm.trans H; rw [Bg]; with_reducible exact H2_) | (have H2_ := (Option.bind_some _ _).symm.trans H; with_reducible exact H2_) | with_reducible exact H | (rw [Bg]; exact H) | exact H
            have Cm := Aside0.mk Bg; clear Bg; have H' := Aside0.mk H; clear H; have Ca : 0 ≤ (Aa : Int) := of_decide_eq_true Z3; have Cb : Aa < (Ab.length : Int) := of_decide_eq_true Z3; obtain ⟨ad240, e240, Cy⟩ := Kd.at_int (Kd.R_reads' Bn.out).2.2 Aa Ca Cb; cases e240; replace Ca := eq_true Ca; replace Cb := eq_true Cb; obtain ⟨Dp, Bi, C7⟩ := Kd.R_slice Aq.out; subst C7; have Cc : 0 ≤ ((rd Ab Aa) : Int) := of_decide_eq_true Z3; have Cd : (rd Ab Aa) < (Aj.length : Int) := of_decide_eq_true Z3; obtain ⟨ad241, e241, Bs⟩ := Kd.at_int (Kd.R_reads' Aq.out).2.2 (rd Ab Aa) Cc Cd; cases e241; replace Cc := eq_true Cc; replace Cd := eq_true Cd; have C8 : 0 ≤ ((rd Ab Aa) : Int) := of_decide_eq_true Z3; have C9 : ((rd Ab Aa) : Int) < ((Aj.length : Int) : Int) := of_decide_eq_true Z3; obtain ⟨Ay, Dq, Cn, Co, gl20, cl20, HG20⟩ := Kd.R_form Aq.out (by omega)
            (first | cases Cn | (injection Cn with ea_ en_ ec_; (first | subst ea_ | (injection ea_ with ea_; subst ea_)); subst ec_; clear en_))
            have Da := Aside0.mk Co; have Dr := Aside0.mk HG20; clear Co gl20 HG20
            (first | simp only [add_plain] at Bs | skip)
            obtain ⟨Db, Dc⟩ := Kd.R_celln 0 Aq.out ((rd Ab Aa) : Int) C8 C9; replace C8 := eq_true C8; replace C9 := eq_true C9; have Ce := Kd.R_putg Aq.out ((rd Ab Aa) : Int) (wrap64 ((rd Aj (rd Ab Aa)) + 1))
            go_wp2_with (first | ((with_reducible refine gate_store (t := 3) (p := 31) rfl ?_); refine store_event (t := 3) (p := 31) (v := ?vo_w26) (w1 := (wr.setCell ⟨Ay, ((rd Ab Aa) : Int).toNat, none⟩ (.int .i64 (wrap64 ((rd Aj (rd Ab Aa)) + 1))))) ?hg ?ho ?hn ?hr ?_; (case ho => rfl); (case hg => rfl); (case hn => rfl); (case hr => first | (go_simp; done) | (go_simp; rfl)); intro Cp hw; have hg : wr.grownBy Cp (some Ay) := (by rw [hw]; exact Ce.2); have hp_ : Kd.R (Kd.int .i64) 3 Cp w.heap.size (fun k_ => some k_ ≠ (.slice (some ad240) Ab.length Bh : Value).ownBlock ∧ nV k_ Ap) (.slice (some ⟨Ay, 0, none⟩) Aj.length Bi) Br := (by rw [hw, Cl.out]; exact Ce.1); clear Ce; replace Bn := aM (Kd.R_after (v := (.slice (some ⟨Ay, 0, none⟩) Aj.length Bi)) (v1 := (.slice (some ⟨Ay, 0, none⟩) Aj.length Bi)) (ok := (fun k_ => nV k_ Ap)) Z176 hg (.inl rfl)); replace Au := aM (Kd.R_after (v := (.slice (some ⟨Ay, 0, none⟩) Aj.length Bi)) (v1 := (.slice (some ⟨Ay, 0, none⟩) Aj.length Bi)) (ok := (fun k_ => some k_ ≠ (.slice (some ad240) Ab.length Bh : Value).ownBlock)) Z129 hg (.inl rfl)); replace Ac := aM (blk_grown (g := Bd) (o := .cells #[.int .i64 Ah, .int .i64 Ai, .slice Ba Ae.length Ax] 28 (0, 0)) Z40 hg (Kd.R_ne Aq.out Ac.out (by decide))); replace Aq := aM (hp_); replace HB := aM ((by rw [hw]; exact below_set (HB.out) Da.out : Below w.heap.size w Cp)); clear hg hw hp_; obtain ⟨Cz, C0, C1⟩ := bz3 Ac; obtain ⟨C3, C4, C5⟩ := fz3 Ac; have Cf : 0 ≤ (Aa : Int) := of_decide_eq_true Z3; have Cg : Aa < (Ae.length : Int) := of_decide_eq_true Z3; obtain ⟨ad243, e243, Az⟩ := Kd.at_int Bv.out Aa Cf Cg; cases e243; replace Az := (HB.out.cell (World.block_lt_of_cell? w _ Az)).trans Az; replace Cf := eq_true Cf; replace Cg := eq_true Cg; have Dd : 0 ≤ ((rd Ab Aa) : Int) := of_decide_eq_true Z3; have De : ((rd Ab Aa) : Int) < ((Al.length : Int) : Int) := of_decide_eq_true Z3; obtain ⟨Bj, Bp, Cq, Cr, gl23, cl23, HG23⟩ := Kd.R_form Au.out (by omega); (first | cases Cq | (injection Cq with ea_ en_ ec_; (first | subst ea_ | (injection ea_ with ea_; subst ea_)); subst ec_; clear en_)); have Df := Aside0.mk Cr; have Ds := Aside0.mk HG23; clear Cr gl23 HG23; obtain ⟨Dg, Dh⟩ := Kd.R_celln 0 Au.out ((rd Ab Aa) : Int) Dd De; replace Dd := eq_true Dd; replace De := eq_true De; obtain ⟨hy28_, hz28_⟩ := Kd.R_celln 0 Au.out ((rd Ab Aa) : Int) (of_decide_eq_true Z3) (of_decide_eq_true Z3); have Ch := Kd.R_putg Au.out ((rd Ab Aa) : Int) (rd Ae Aa)) | ((with_reducible refine gate_store (t := 3) (p := 39) rfl ?_); refine store_event (t := 3) (p := 39) (v := ?vo_w29) (w1 := (Cp.setCell ⟨Bj, ((rd Ab Aa) : Int).toNat, none⟩ (.int .i64 (rd Ae Aa)))) ?hg ?ho ?hn ?hr ?_; (case ho => rfl); (case hg => rfl); (case hn => rfl); (case hr => first | (go_simp; done) | (go_simp; rfl)); intro Di hw; have hg : Cp.grownBy Di (some Bj) := (by rw [hw]; exact Ch.2); have hp_ : Kd.R (Kd.int .i64) 3 Di w.heap.size (fun k_ => some k_ ≠ (.slice (some ad240) Ab.length Bh : Value).ownBlock ∧ some k_ ≠ (.slice (some ⟨Ay, 0, none⟩) Aj.length Bi : Value).ownBlock) (.slice (some ⟨Bj, 0, none⟩) Al.length Bp) B7 := (by rw [hw, Cm.out]; exact Ch.1); clear Ch; replace Bn := aM (Kd.R_after (v := (.slice (some ⟨Bj, 0, none⟩) Al.length Bp)) (v1 := (.slice (some ⟨Bj, 0, none⟩) Al.length Bp)) (ok := (fun k_ => some k_ ≠ (.slice (some ⟨Ay, 0, none⟩) Aj.length Bi : Value).ownBlock)) Z176 hg (.inl rfl)); replace Aq := aM (Kd.R_after (v := (.slice (some ⟨Bj, 0, none⟩) Al.length Bp)) (v1 := (.slice (some ⟨Bj, 0, none⟩) Al.length Bp)) (ok := (fun k_ => some k_ ≠ (.slice (some ad240) Ab.length Bh : Value).ownBlock)) Z100 hg (.inl rfl)); replace Ac := aM (blk_grown (g := Bd) (o := .cells #[.int .i64 Ah, .int .i64 Ai, .slice (some ad243) Ae.length Ax] 28 (0, 0)) Z40 hg (Kd.R_ne Au.out Ac.out (by decide))); replace Au := aM (hp_); replace HB := aM ((by rw [hw]; exact below_set (HB.out) Df.out : Below w.heap.size w Di)); clear hg hw hp_))
            go_roundg k1
            case measure => have := HK1.out; omega
            case rel => exact ⟨(Br), (B7), (wrap64 (Aa + 1)), Z14, H', ⟨Z118⟩, ⟨by (with_reducible repeat (first | apply Kd.R_alloc | apply Kd.R_drewN | apply Kd.R_drew)); exact Bn.out⟩, ⟨Z100⟩, ⟨Z129⟩, ⟨Z40⟩, ⟨Z4⟩⟩
           ·rw [if_neg Cx] at H
            exact absurd H (by simp)
          ·rw [if_neg Cw] at H
           exact absurd H (by simp)
         ·rw [if_neg Cv] at H
          exact absurd H (by simp)
        ·rw [if_neg Cu] at H
         exact absurd H (by simp)
       ·rw [if_neg Ct] at H
        exact absurd H (by simp)
      ·rw [if_neg Cs] at H
       exact absurd H (by simp)
     ·rw [if_neg Ci] at H
      have c15b0 : decide (Aa < (Ab.length : Int)) = false := decide_eq_false Ci; clear Ci
      simp only [Option.some.injEq, Prod.mk.injEq] at H
      obtain ⟨rfl, rfl⟩ := H
      go_wp2
      go_ret2
      exact ⟨_, _, Z10, Z184, Z185, Z4⟩
  ·rw [if_neg c4] at H
   exact absurd H (by simp)
 ·rw [if_neg c3] at H
  exact absurd H (by simp)
end Go.Proofs.Ytaadbpibmlnncaa.H
