-- by wip/pack.py of this repo
import Derived.Test.YtnkecgldapagcaaZ07Hx0
import Derived.Test.YtnkecgldapagcaaZ07Hx2
import Derived.Test.YtnkecgldapagcaaZ07Hx3
import Derived.Test.YtnkecgldapagcaaZ07WLast
import Derived.Test.YtnkecgldapagcaaZ07WMore
import Derived.Test.YtnkecgldapagcaaZ07WTab
import Derived.Test.YtnkecgldapagcaaZ07WWords
import Derived.Test.YtnkecgldapagcaaZ07Short
namespace Go.Proofs.Ytnkecgldapagcaa.H
open Go.RowKit Go.Proofs.YtnkecgldapagcaaW.PrintWords Go.Proofs.YtnkecgldapagcaaW.PrintLast Go.Proofs.YtnkecgldapagcaaW.PrintMore
attribute [local go_sem] max2_int min2_int max_two min_two max_three min_three max_four min_four
set_option maxHeartbeats 8000000
set_option maxRecDepth 100000
set_option linter.unusedVariables false
set_option linter.unusedSimpArgs false
mutual
def spec_YarnByColor.j0 : Nat → List Int → Bool → Int → Int → List Int → Int → Int → Int → Int → Option (List Int × Bool)
 | 0, _, _, _, _, _, _, _, _, _ => none
 | k + 1, x6, x17, x133000, x133001, x133002, x134000, x134001, x134002, x134003 => if x17 = true then (some (x6, false)) else ((spec_l10Counts.f k x133000 x133001 x133002).bind fun t139 => (spec_YarnByColor.l0 k x6 t139 0 x134000 x134001 x134002 x134003))
def spec_YarnByColor.l0 : Nat → List Int → List Int → Int → Int → Int → Int → Int → Option (List Int × Bool)
 | 0, _, _, _, _, _, _, _ => none
 | k + 1, x6, x7, x8, x134000, x134001, x134002, x134003 => if x8 < (x7.length : Int) then (if 0 ≤ x8 then ((spec_l10For.f x134000 x134001 x134002 x134003 (rd x7 x8)).bind fun t143 => (if x6.length < 17592186044416 then (spec_YarnByColor.l0 k (x6 ++ [t143]) x7 (wrap64 (x8 + 1)) x134000 x134001 x134002 x134003) else (none))) else (none)) else (some (x6, true))
end
def spec_YarnByColor.f (k : Nat) (a0_0 : Int) (a0_1 : Int) (l0_2 : List Int) (a1_0 : Int) (a1_1 : Int) (a1_2 : Int) (a1_3 : Int) : Option (List Int × Bool) := (some (([] : List Int) : List Int)).bind fun y134 => ((spec_l2Good.f k a0_0 a0_1 l0_2).bind fun t137 => (if t137 = true then ((spec_l10Good.f a1_0 a1_1 a1_2 a1_3).bind fun t138 => (spec_YarnByColor.j0 k y134 (!t138) a0_0 a0_1 l0_2 a1_0 a1_1 a1_2 a1_3)) else (spec_YarnByColor.j0 k y134 true a0_0 a0_1 l0_2 a1_0 a1_1 a1_2 a1_3)))
def spec_YarnByColor.T8 : Bool × List (List Nat × List Nat) := (true, [([], []), ([], []), ([], []), ([], []), ([2, 3], [2, 3]), ([4], [4]), ([1, 5], [1, 5]), ([6], [6]), ([0, 7, 6], [0, 7]), ([8, 8, 0, 1, 2, 3, 4, 5, 6, 7, 8], [0, 8])])
def spec_YarnByColor.B8 : List Nat := [0, 0, 0, 0, 12, 28, 62, 126, 255, 511]
theorem spec_YarnByColor.tab8 : rtab .any (opsOf Try.f12 8) = spec_YarnByColor.T8 := by kernel_rfl
theorem spec_YarnByColor.bits8 : waitsOk spec_YarnByColor.T8.2 spec_YarnByColor.B8 = true := by kernel_rfl
theorem spec_YarnByColor.calls (k : Nat) (a0_0 : Int) (a0_1 : Int) (A0_2 : Option Addr) (c0_2 : Nat) (l0_2 : List Int) (a1_0 : Int) (a1_1 : Int) (a1_2 : Int) (a1_3 : Int) (r1 : List Int) (r2 : Bool) (w : World) (hr0_2 : Kd.C (Kd.int .i64) w A0_2 l0_2.length l0_2) (hc0_2 : l0_2.length ≤ c0_2) (h : spec_YarnByColor.f k a0_0 a0_1 l0_2 a1_0 a1_1 a1_2 a1_3 = some (r1, r2)) :
  Calls Try.prog 12 #[.agg #[.int .i64 a0_0, .int .i64 a0_1, .slice A0_2 l0_2.length c0_2], .agg #[.int .i64 a1_0, .int .i64 a1_1, .int .i64 a1_2, .int .i64 a1_3]] w fun e w' => ∃ v0_ : Value, e = .returned (.tuple #[v0_, .bool r2]) ∧ Kd.R (Kd.int .i64) 3 w' w.heap.size (fun _ => True) v0_ r1 ∧ Below w.heap.size w w' := by
 have hu30 := Try.underlying30
 have hu32 := Try.underlying32
 have HR0_2 := Aside0.mk hr0_2
 have HC0_2 := Aside0.mk hc0_2
 clear hr0_2 hc0_2
 have HB := Aside0.mk (Below.refl w.heap.size w)
 have H : ((some (([] : List Int) : List Int)).bind fun y134 => ((spec_l2Good.f k a0_0 a0_1 l0_2).bind fun t137 => (if t137 = true then ((spec_l10Good.f a1_0 a1_1 a1_2 a1_3).bind fun t138 => (spec_YarnByColor.j0 k y134 (!t138) a0_0 a0_1 l0_2 a1_0 a1_1 a1_2 a1_3)) else (spec_YarnByColor.j0 k y134 true a0_0 a0_1 l0_2 a1_0 a1_1 a1_2 a1_3)))) = some (r1, r2) := h
 clear h
 obtain ⟨y134, hy134⟩ : ∃ y_ : List Int, y_ = (([] : List Int)) := ⟨_, rfl⟩
 replace H : ((spec_l2Good.f k a0_0 a0_1 l0_2).bind fun t137 => (if t137 = true then ((spec_l10Good.f a1_0 a1_1 a1_2 a1_3).bind fun t138 => (spec_YarnByColor.j0 k y134 (!t138) a0_0 a0_1 l0_2 a1_0 a1_1 a1_2 a1_3)) else (spec_YarnByColor.j0 k y134 true a0_0 a0_1 l0_2 a1_0 a1_1 a1_2 a1_3))) = some (r1, r2) := by first | (rw [hy134]; with_reducible exact H) | (have H2_ := (Option.bind_some _ _).symm.trans H; rw [hy134]; with_reducible exact H2_) | (have H2_ := (Option.bind_some _ _).symm.trans H; with_reducible exact H2_) | with_reducible exact H | (rw [hy134]; exact H) | exact H
 have Ny134 := Aside0.mk hy134
 clear hy134
 have HC3 := Aside0.mk H
 clear H
 go_enter Try.func12, Try.ntmps12
 go_upto_region 2 with (first | ((with_reducible refine gate_dst (N := 2) rfl ?_); refine bxE 2 #[.int .i64 a0_0, .int .i64 a0_1, .slice A0_2 l0_2.length c0_2] 30 ?_; intro gb132 hg w4 hbox hb; have BK132 := Aside0.mk (hbox); have GW132 := gwS hg Z1; have GE132 := gwS hg Z1; replace HB := hbS Z1 hb; clear hb hbox hg) | ((with_reducible refine gate_dst (N := 3) rfl ?_); refine bxE 3 #[.int .i64 a1_0, .int .i64 a1_1, .int .i64 a1_2, .int .i64 a1_3] 32 ?_; intro gb133 hg w5 hbox hb; have BK133 := Aside0.mk (hbox); have GW133 := gwS hg Z110; have GE133 := gwS hg Z110; replace HB := hbS Z110 hb; have NB132_133 := nbL hg BK132; have NB133_132 := nbG hg BK132; replace BK132 := bkB BK132 hb; clear hb hbox hg) | ((with_reducible refine gate_dst (N := 9) rfl ?_); refine Kd.R_lit (Kd.int .i64) _ 3 ?hg (N := 9) ?hd (xs := ([] : List Int)) (inner := []) (ok := fun _ => True) (okp := fun _ => True) ?hr ?hp (fun _ hk => hk) trivial (Below.refl _ _) (Nat.le_refl _) (by simp) ?_; (case hd => rfl); (case hg => rfl); (case hr => first | (go_simp; done) | (go_simp; rfl)); (case hp => exact (Reps.none _ _)); intro v135 w6 ho7 hb hg_ hnew_; clear hg_ hnew_; (first | rw [← Ny134.out] at ho7 | (simp only [Int.reduceToNat] at ho7; rw [← Ny134.out] at ho7)); have HO136 := Aside0.mk (Kd.R_lower ho7 (below_size Z34)); replace BK132 := bkB BK132 hb; replace BK133 := bkB BK133 hb; replace HB := hbS Z34 hb; clear hb ho7))
 (try simp only [Act.put, List.setIfInBounds_toArray, List.set_cons_zero, List.set_cons_succ])
 go_cut [17] (fun v17 wc => ∃ (kq : Nat) (x17_2 : Bool), v17 = .bool x17_2 ∧ Aside0 (spec_YarnByColor.j0 kq y134 x17_2 a0_0 a0_1 l0_2 a1_0 a1_1 a1_2 a1_3 = some (r1, r2)) ∧ Aside0 (kq ≤ k) ∧ Aside0 (Kd.R (Kd.int .i64) 3 wc w.heap.size (fun _ => True) v135 y134) ∧ Aside0 (wc.heap[gb132]? = some (.cells #[.int .i64 a0_0, .int .i64 a0_1, (.slice A0_2 l0_2.length c0_2)] 30 (0, 0))) ∧ Aside0 (wc.heap[gb133]? = some (.cells #[.int .i64 a1_0, .int .i64 a1_1, .int .i64 a1_2, .int .i64 a1_3] 32 (0, 0))) ∧ Aside0 (Below w.heap.size w wc))
 case first =>
  have H := HC3.out
  clear HC3
  replace H := Option.bind_eq_some_iff.mp H
  obtain ⟨t137, A80, H⟩ := H
  replace H : (if t137 = true then ((spec_l10Good.f a1_0 a1_1 a1_2 a1_3).bind fun t138 => (spec_YarnByColor.j0 k y134 (!t138) a0_0 a0_1 l0_2 a1_0 a1_1 a1_2 a1_3)) else (spec_YarnByColor.j0 k y134 true a0_0 a0_1 l0_2 a1_0 a1_1 a1_2 a1_3)) = some (r1, r2) := H
  have A8 := Aside0.mk A80
  clear A80
  by_cases c9 : t137 = true
  ·subst c9
   have H1 : ((spec_l10Good.f a1_0 a1_1 a1_2 a1_3).bind fun t138 => (spec_YarnByColor.j0 k y134 (!t138) a0_0 a0_1 l0_2 a1_0 a1_1 a1_2 a1_3)) = some (r1, r2) := by rw [if_pos rfl] at H; exact H
   clear H
   have H := H1
   clear H1
   replace H := Option.bind_eq_some_iff.mp H
   obtain ⟨t138, A100, H⟩ := H
   replace H : (spec_YarnByColor.j0 k y134 (!t138) a0_0 a0_1 l0_2 a1_0 a1_1 a1_2 a1_3) = some (r1, r2) := H
   have A10 := Aside0.mk A100
   clear A100
   have H' := Aside0.mk H
   clear H
   have hnb11 := NB132_133.out
   have hnc11 := NB133_132.out
   obtain ⟨hcz12_0, hcz12_1, hcz12_2⟩ := bz3 BK132
   obtain ⟨hfz12_0, hfz12_1, hfz12_2⟩ := fz3 BK132
   go_wp2_with (first | ((with_reducible refine gate_callee (f := 47) rfl ?_); refine glE (some 11) Try.func47 #[.agg #[.int .i64 a0_0, .int .i64 a0_1, .slice A0_2 l0_2.length c0_2]] ?_; (with_reducible refine (spec_l2Good.calls k a0_0 a0_1 _ _ l0_2 true _ ?side1 ?side2 A8.out).mono ?_); (case side1 => exact Z12); (case side2 => exact HC0_2.out); rintro e w13 ⟨rfl, hb⟩; refine ⟨_, rfl, ?_⟩; replace HO136 := roB HO136 hb; replace BK132 := bkB BK132 hb; replace BK133 := bkB BK133 hb; replace HB := hbS Z34 hb; (try clear hb); obtain ⟨hcz14_0, hcz14_1, hcz14_2, hcz14_3⟩ := bz4 BK133; obtain ⟨hfz14_0, hfz14_1, hfz14_2, hfz14_3⟩ := fz4 BK133) | (go_at_call 48; (with_reducible refine (spec_l10Good.calls a1_0 a1_1 a1_2 a1_3 t138 _ A10.out).mono ?_); rintro e w15 ⟨rfl, hb⟩; replace HO136 := roB HO136 hb; replace BK132 := bkB BK132 hb; replace BK133 := bkB BK133 hb; replace HB := hbS Z34 hb; (try clear hb)))
   go_meet
   case rel => exact ⟨_, (!t138), Z20, H', ⟨Z91⟩, ⟨Z164⟩, ⟨Z99⟩, ⟨Z100⟩, ⟨Z34⟩⟩
  ·replace c9 := Bool.eq_false_iff.mpr c9
   subst c9
   have H1 : (spec_YarnByColor.j0 k y134 true a0_0 a0_1 l0_2 a1_0 a1_1 a1_2 a1_3) = some (r1, r2) := by rw [if_neg (show ¬ (false = true) by decide)] at H; exact H
   clear H
   have H := H1
   clear H1
   have H' := Aside0.mk H
   clear H
   have hnb16 := NB132_133.out
   have hnc16 := NB133_132.out
   obtain ⟨hcz17_0, hcz17_1, hcz17_2⟩ := bz3 BK132
   obtain ⟨hfz17_0, hfz17_1, hfz17_2⟩ := fz3 BK132
   go_wp2_with (first | ((with_reducible refine gate_callee (f := 47) rfl ?_); refine glE (some 11) Try.func47 #[.agg #[.int .i64 a0_0, .int .i64 a0_1, .slice A0_2 l0_2.length c0_2]] ?_; (with_reducible refine (spec_l2Good.calls k a0_0 a0_1 _ _ l0_2 false _ ?side1 ?side2 A8.out).mono ?_); (case side1 => exact Z12); (case side2 => exact HC0_2.out); rintro e w18 ⟨rfl, hb⟩; refine ⟨_, rfl, ?_⟩; replace HO136 := roB HO136 hb; replace BK132 := bkB BK132 hb; replace BK133 := bkB BK133 hb; replace HB := hbS Z34 hb; (try clear hb)))
   go_meet
   case rel => exact ⟨_, (true), Z20, H', ⟨Z91⟩, ⟨Z164⟩, ⟨Z99⟩, ⟨Z100⟩, ⟨Z34⟩⟩
 case rest =>
  clear HC3
  try clear c1
  try clear p2
  try clear c4
  try clear c9
  try clear c11
  try clear c12
  try clear c16
  try clear hcz12_0
  try clear hcz12_1
  try clear hcz12_2
  try clear hcz14_0
  try clear hcz14_1
  try clear hcz14_2
  try clear hcz14_3
  try clear hcz17_0
  try clear hcz17_1
  try clear hcz17_2
  try clear hfz12_0
  try clear hfz12_1
  try clear hfz12_2
  try clear hfz14_0
  try clear hfz14_1
  try clear hfz14_2
  try clear hfz14_3
  try clear hfz17_0
  try clear hfz17_1
  try clear hfz17_2
  obtain ⟨kq, x17_2, rfl, HA, HJ2, HO_6, BK132, BK133, HB⟩ := hcut
  cases kq with
  | zero => exact absurd HA.out (by simp [spec_YarnByColor.j0])
  | succ kj2 =>
   have H := HA.out
   clear HA
   simp only [spec_YarnByColor.j0] at H
   by_cases c19 : x17_2 = true
   ·subst c19
    have H1 : (some (y134, false)) = some (r1, r2) := by rw [if_pos rfl] at H; exact H
    clear H
    have H := H1
    clear H1
    simp only [Option.some.injEq, Prod.mk.injEq] at H
    obtain ⟨rfl, rfl⟩ := H
    go_wp2
    go_ret2
    exact ⟨_, Z11, Z122, Z34⟩
   ·replace c19 := Bool.eq_false_iff.mpr c19
    subst c19
    have H1 : ((spec_l10Counts.f kj2 a0_0 a0_1 l0_2).bind fun t139 => (spec_YarnByColor.l0 kj2 y134 t139 0 a1_0 a1_1 a1_2 a1_3)) = some (r1, r2) := by rw [if_neg (show ¬ (false = true) by decide)] at H; exact H
    clear H
    have H := H1
    clear H1
    replace H := Option.bind_eq_some_iff.mp H
    obtain ⟨t139, A200, H⟩ := H
    replace H : (spec_YarnByColor.l0 kj2 y134 t139 0 a1_0 a1_1 a1_2 a1_3) = some (r1, r2) := H
    have A20 := Aside0.mk A200
    clear A200
    have H' := Aside0.mk H
    clear H
    have hnb21 := NB132_133.out
    have hnc21 := NB133_132.out
    obtain ⟨hcz22_0, hcz22_1, hcz22_2⟩ := bz3 BK132
    obtain ⟨hfz22_0, hfz22_1, hfz22_2⟩ := fz3 BK132
    go_wp2_with (first | ((with_reducible refine gate_callee (f := 49) rfl ?_); refine glE (some 20) Try.func49 #[.agg #[.int .i64 a0_0, .int .i64 a0_1, .slice A0_2 l0_2.length c0_2]] ?_; (with_reducible refine (spec_l10Counts.calls kj2 a0_0 a0_1 _ _ l0_2 t139 _ ?side1 ?side2 A20.out).mono ?_); (case side1 => exact Z12); (case side2 => exact HC0_2.out); rintro e w23 ⟨v140, rfl, ho0, hb⟩; refine ⟨_, rfl, ?_⟩; have HO141 := Aside0.mk (Kd.R_lower (Kd.R_new' ho0 (Kd.R_lt Z122)) (below_size Z34)); replace HO_6 := Aside0.mk (Kd.R_elder' Z122 (Kd.R_base ho0) hb); replace BK132 := bkB BK132 hb; replace BK133 := bkB BK133 hb; replace HB := hbS Z34 hb; (try clear hb); (try clear ho0)))
    go_loopg [6, 8] kj2 (fun kq v6 v8 w' => ∃ (x6_2 : List Int) (x8_2 : Int), v8 = .int .i64 x8_2 ∧ Aside0 (spec_YarnByColor.l0 kq x6_2 t139 x8_2 a1_0 a1_1 a1_2 a1_3 = some (r1, r2)) ∧ Aside0 (kq ≤ kj2) ∧ Aside0 (Kd.R (Kd.int .i64) 3 w' w.heap.size (fun k_ => some k_ ≠ (v140 : Value).ownBlock) v6 x6_2) ∧ Aside0 (Kd.R (Kd.int .i64) 3 w' w.heap.size (fun k_ => some k_ ≠ (v6 : Value).ownBlock) v140 t139) ∧ Aside0 (w'.heap[gb132]? = some (.cells #[.int .i64 a0_0, .int .i64 a0_1, (.slice A0_2 l0_2.length c0_2)] 30 (0, 0))) ∧ Aside0 (w'.heap[gb133]? = some (.cells #[.int .i64 a1_0, .int .i64 a1_1, .int .i64 a1_2, .int .i64 a1_3] 32 (0, 0))) ∧ Aside0 (Below w.heap.size w w'))
    case atStart => exact ⟨(y134), (0), Z20, H', ⟨Nat.le_refl _⟩, ⟨by (with_reducible repeat (first | apply Kd.R_alloc | apply Kd.R_drewN | apply Kd.R_drew)); exact Kd.R_mono HO_6.out (fun _ hk => hk.2)⟩, ⟨by (with_reducible repeat (first | apply Kd.R_alloc | apply Kd.R_drewN | apply Kd.R_drew)); exact Kd.R_mono HO141.out (fun _ hk => hk.2)⟩, ⟨Z99⟩, ⟨Z100⟩, ⟨Z34⟩⟩
    case round =>
     clear H'
     try clear c1
     try clear c2
     try clear p2
     try clear c4
     try clear c9
     try clear c11
     try clear c12
     try clear c16
     try clear c19
     try clear c21
     try clear hcz12_0
     try clear hcz12_1
     try clear hcz12_2
     try clear hcz14_0
     try clear hcz14_1
     try clear hcz14_2
     try clear hcz14_3
     try clear hcz17_0
     try clear hcz17_1
     try clear hcz17_2
     try clear hcz22_0
     try clear hcz22_1
     try clear hcz22_2
     try clear hfz12_0
     try clear hfz12_1
     try clear hfz12_2
     try clear hfz14_0
     try clear hfz14_1
     try clear hfz14_2
     try clear hfz14_3
     try clear hfz17_0
     try clear hfz17_1
     try clear hfz17_2
     try clear hfz22_0
     try clear hfz22_1
     try clear hfz22_2
     try clear p2
     obtain ⟨x6_2, x8_2, rfl, HA, HK2, HO_6, HO_7, BK132, BK133, HB⟩ := hrel
     cases gk with
     | zero => exact absurd HA.out (by simp [spec_YarnByColor.l0])
     | succ k2 =>
      have H := HA.out
      clear HA
      simp only [spec_YarnByColor.l0] at H
      by_cases c24 : x8_2 < (t139.length : Int)
      ·rw [if_pos c24] at H
       have c24b0 : decide (x8_2 < (t139.length : Int)) = true := decide_eq_true c24
       clear c24
       by_cases c25 : 0 ≤ x8_2
       ·rw [if_pos c25] at H
        have c25b0 : decide (0 ≤ x8_2) = true := decide_eq_true c25
        clear c25
        replace H := Option.bind_eq_some_iff.mp H
        obtain ⟨t143, A260, H⟩ := H
        replace H : (if x6_2.length < 17592186044416 then (spec_YarnByColor.l0 k2 (x6_2 ++ [t143]) t139 (wrap64 (x8_2 + 1)) a1_0 a1_1 a1_2 a1_3) else (none)) = some (r1, r2) := H
        have A26 := Aside0.mk A260
        clear A260
        by_cases c27 : x6_2.length < 17592186044416
        ·rw [if_pos c27] at H
         have LMc27 := Aside0.mk c27
         clear c27
         obtain ⟨y144, hy144⟩ : ∃ y_ : List Int, y_ = (x6_2 ++ [t143]) := ⟨_, rfl⟩
         replace H : (spec_YarnByColor.l0 k2 y144 t139 (wrap64 (x8_2 + 1)) a1_0 a1_1 a1_2 a1_3) = some (r1, r2) := by first | (rw [hy144]; with_reducible exact H) | (have H2_ := (Option.bind_some _ _).symm.trans H; rw [hy144]; with_reducible exact H2_) | (have H2_ := (Option.bind_some _ _).symm.trans H; with_reducible exact H2_) | with_reducible exact H | (rw [hy144]; exact H) | exact H
         have Ny144 := Aside0.mk hy144
         clear hy144
         have H' := Aside0.mk H
         clear H
         obtain ⟨Ao28, co28, eo28⟩ := Kd.R_slice HO_7.out
         subst eo28
         try go_wp2
         replace HO_6 := Aside0.mk (Kd.R_drew HO_6.out); replace HO_7 := Aside0.mk (Kd.R_drew HO_7.out); replace BK132 := Aside0.mk (blk_drew BK132.out); replace BK133 := Aside0.mk (blk_drew BK133.out); replace HB := Aside0.mk (below_drew1 HB.out)
         have p142 : 0 ≤ (x8_2 : Int) := of_decide_eq_true Z19
         have q142 : x8_2 < (t139.length : Int) := of_decide_eq_true Z19
         obtain ⟨ad142, e142, hx142_0⟩ := Kd.at_int (Kd.R_reads' HO_7.out).2.2 x8_2 p142 q142
         cases e142
         replace p142 := eq_true p142
         replace q142 := eq_true q142
         refine start_ (n := 10) (S := fun w' => w'.cell? ⟨gb133, 0, none⟩ = some (.int .i64 a1_0) ∧ w'.cell? ⟨gb133, 1, none⟩ = some (.int .i64 a1_1) ∧ w'.cell? ⟨gb133, 2, none⟩ = some (.int .i64 a1_2) ∧ w'.cell? ⟨gb133, 3, none⟩ = some (.int .i64 a1_3) ∧ w'.cell? (ad142.add (x8_2).toNat) = some (.int .i64 (rd t139 x8_2))) (ds := [7, 8]) #[false, false, false, false, false, false, false, false, false, false] Z58 rfl rfl ⟨(blk_cell BK133.out 0).trans rfl, (blk_cell BK133.out 1).trans rfl, (blk_cell BK133.out 2).trans rfl, (blk_cell BK133.out 3).trans rfl, hx142_0⟩ (fun hHeld => ?_); refine with_tabW spec_YarnByColor.tab8 spec_YarnByColor.bits8 (fun HT_ HW_ => ?_)
         generalize wr.drew = w29 at HO_6 HO_7 BK132 BK133 HB hx142_0 hHeld ⊢
         refine pure_ (i := 0) (N := some 27) (v := ?_) (a' := ?_) #[true, false, false, false, false, false, false, false, false, false] rfl rfl (any_of HT_.out Z58) (fun _ _ _ h => h) (Or.inl ⟨by rfl, ?_⟩) ?_ ?_
         rotate_left
         ·intro w'
          go_simp
          with_reducible rfl
         rotate_left
         ·simp only [Act.put, List.setIfInBounds_toArray, List.set_cons_zero, List.set_cons_succ, i64_w, i32_w]
          rfl
         refine pure_ (i := 2) (N := some 29) (v := ?_) (a' := ?_) #[true, false, true, false, false, false, false, false, false, false] rfl rfl (any_of HT_.out Z58) (fun _ _ _ h => h) (Or.inl ⟨by rfl, ?_⟩) ?_ ?_
         rotate_left
         ·intro w'
          go_simp
          with_reducible rfl
         rotate_left
         ·simp only [Act.put, List.setIfInBounds_toArray, List.set_cons_zero, List.set_cons_succ, i64_w, i32_w]
          rfl
         refine pure_ (i := 3) (N := some 30) (v := ?_) (a' := ?_) #[true, false, true, true, false, false, false, false, false, false] rfl rfl (any_of HT_.out Z58) (fun _ _ _ h => h) (Or.inl ⟨by rfl, ?_⟩) ?_ ?_
         rotate_left
         ·intro w'
          go_simp
          with_reducible rfl
         rotate_left
         ·simp only [Act.put, List.setIfInBounds_toArray, List.set_cons_zero, List.set_cons_succ, i64_w, i32_w]
          rfl
         refine pure_ (i := 4) (N := some 31) (v := ?_) (a' := ?_) #[true, false, true, true, true, false, false, false, false, false] rfl rfl (any_of HT_.out Z58) (fun _ _ _ h => h) (Or.inl ⟨by rfl, ?_⟩) ?_ ?_
         rotate_left
         ·intro w'
          go_simp
          with_reducible rfl
         rotate_left
         ·simp only [Act.put, List.setIfInBounds_toArray, List.set_cons_zero, List.set_cons_succ, i64_w, i32_w]
          rfl
         refine take_ (i := 1) (N := some 28) (v := ?_) (a' := ?_) #[true, true, true, true, true, false, false, false, false, false] rfl rfl (take_ofW HT_.out HW_.out Z58) (fun _ _ _ h => h) (Or.inl ⟨by rfl, ?_⟩) hHeld ?_ ?_
         rotate_left
         ·rintro w' ⟨s0, s1, s2, s3, s4⟩
          go_simp
          with_reducible rfl
         rotate_left
         ·simp only [Act.put, List.setIfInBounds_toArray, List.set_cons_zero, List.set_cons_succ, i64_w, i32_w]
          rfl
         refine take_ (i := 5) (N := some 32) (v := ?_) (a' := ?_) #[true, true, true, true, true, true, false, false, false, false] rfl rfl (take_ofW HT_.out HW_.out Z58) (fun _ _ _ h => h) (Or.inl ⟨by rfl, ?_⟩) hHeld ?_ ?_
         rotate_left
         ·rintro w' ⟨s0, s1, s2, s3, s4⟩
          go_simp
          with_reducible rfl
         rotate_left
         ·simp only [Act.put, List.setIfInBounds_toArray, List.set_cons_zero, List.set_cons_succ, i64_w, i32_w]
          rfl
         refine one_ (i := 6) (N := some 33) #[true, true, true, true, true, true, true, false, false, false] rfl rfl (one_of HT_.out Z58) (by decide) (fun K hK => ?_)
         refine goes_ Try.func50 Z58 rfl #[.agg #[.int .i64 a1_0, .int .i64 a1_1, .int .i64 a1_2, .int .i64 a1_3], .int .i64 (rd t139 x8_2)] (by rfl) rfl rfl Z52 ?_
         with_reducible refine (spec_l10For.calls a1_0 a1_1 a1_2 a1_3 (rd t139 x8_2) t143 _ A26.out).mono ?_
         rintro e w30 ⟨rfl, hb⟩
         have HS4_ := (hb.cell (World.block_lt_of_cell? _ _ (hHeld.2.2.2.2))).trans (hHeld.2.2.2.2)
         refine ⟨_, rfl, ?_⟩
         replace HO_6 := roB HO_6 hb; replace HO_7 := roB HO_7 hb; replace BK132 := bkB BK132 hb; replace BK133 := bkB BK133 hb; replace HB := hbS Z34 hb
         (try clear hb)
         (try clear hb2)
         (try clear hk)
         (try clear hi)
         refine hK.out _ _ ⟨(blk_cell BK133.out 0).trans rfl, (blk_cell BK133.out 1).trans rfl, (blk_cell BK133.out 2).trans rfl, (blk_cell BK133.out 3).trans rfl, HS4_⟩ (fun hHeld => ?_)
         clear hK K
         refine noR 33 ?_
         refine last_ (i := 7) (N := some 34) #[true, true, true, true, true, true, true, true, false, false] rfl rfl (one_of HT_.out Z58) (by decide) (fun K hK => ?_)
         refine value_ (w1 := ?_) (v := ?_) (by rfl) rfl ?_ ?_
         rotate_left 2
         ·go_simp
          constructor
          ·rfl
          ·rfl
         refine hK.out _ _ ?_
         clear hK K
         refine noR 34 ?_
         refine last_ (i := 8) (N := some 35) #[true, true, true, true, true, true, true, true, true, false] rfl rfl (one_of HT_.out Z58) (by decide) (fun K hK => ?_)
         refine Kd.R_append_step (Kd.int .i64) (w0 := w) w.heap.size (by rfl) (.tmp 27) (.tmp 34) 22 3 (.int .i64 0) 8 rfl Try.underlying22 info3 rfl (by decide) (by omega) u6 x6_2 t143 [.int .i64 t143] (fun k_ => some k_ ≠ (.slice (some ad142) t139.length co28 : Value).ownBlock) (fun _ => False) rfl rfl ?aP (fun _ hk => hk.elim) ?aF ?aO ?aB ?aS ?aL ?_
         (case aP => exact rfl)
         (case aB => exact Z34)
         (case aF => exact (fun k_ hk => Kd.fresh' (Kd.R_lt Z170) k_ hk))
         (case aO => exact Z122)
         (case aS => exact (below_size Z34))
         (case aL => have := LMc27.out; omega)
         intro v145 w31 ho hb hg hat
         rw [← Ny144.out] at ho
         replace HO_7 := Aside0.mk (Kd.R_after (ok := (fun _ => True)) (by (with_reducible repeat (first | apply Kd.R_alloc | apply Kd.R_drewN | apply Kd.R_drew)); exact Kd.R_mono HO_7.out (fun _ hk => ⟨trivial, hk⟩)) hg hat); replace BK132 := Aside0.mk (blk_grown (g := gb132) (o := .cells #[.int .i64 a0_0, .int .i64 a0_1, .slice A0_2 l0_2.length c0_2] 30 (0, 0)) Z99 hg (Kd.R_ne HO_6.out BK132.out (by decide))); replace BK133 := Aside0.mk (blk_grown (g := gb133) (o := .cells #[.int .i64 a1_0, .int .i64 a1_1, .int .i64 a1_2, .int .i64 a1_3] 32 (0, 0)) Z100 hg (Kd.R_ne HO_6.out BK133.out (by decide))); replace HB := Aside0.mk (hb); have HO146 := Aside0.mk (ho); clear HO_6
         clear ho hb hg hat
         refine hK.out _ _ ?_
         clear hK K
         refine noR 35 ?_
         refine pure_ (i := 9) (N := some 6) (v := ?_) (a' := ?_) #[true, true, true, true, true, true, true, true, true, true] rfl rfl (any_of HT_.out Z58) (fun _ _ _ h => h) (Or.inl ⟨by rfl, ?_⟩) ?_ ?_
         rotate_left
         ·intro w'
          go_simp
          with_reducible rfl
         rotate_left
         ·simp only [Act.put, List.setIfInBounds_toArray, List.set_cons_zero, List.set_cons_succ, i64_w, i32_w]
          rfl
         refine done_ (done_of HT_.out Z58) ?_
         try go_wp2
         go_roundg k2
         case measure => have := HJ2.out; have := HK2.out; omega
         case rel => exact ⟨(y144), (wrap64 (x8_2 + 1)), Z20, H', ⟨by have := HJ2.out; have := HK2.out; omega⟩, ⟨by (with_reducible repeat (first | apply Kd.R_alloc | apply Kd.R_drewN | apply Kd.R_drew)); exact HO146.out⟩, ⟨by (with_reducible repeat (first | apply Kd.R_alloc | apply Kd.R_drewN | apply Kd.R_drew)); exact Kd.R_mono HO_7.out (fun _ hk => hk.2)⟩, ⟨Z99⟩, ⟨Z100⟩, ⟨Z34⟩⟩
        ·rw [if_neg c27] at H
         exact absurd H (by simp)
       ·rw [if_neg c25] at H
        exact absurd H (by simp)
      ·rw [if_neg c24] at H
       have c24b0 : decide (x8_2 < (t139.length : Int)) = false := decide_eq_false c24
       clear c24
       simp only [Option.some.injEq, Prod.mk.injEq] at H
       obtain ⟨rfl, rfl⟩ := H
       obtain ⟨Ao32, co32, eo32⟩ := Kd.R_slice HO_7.out
       subst eo32
       go_wp2
       go_ret2
       exact ⟨_, Z11, by (with_reducible repeat (first | apply Kd.R_alloc | apply Kd.R_drewN | apply Kd.R_drew)); exact Kd.R_mono HO_6.out (fun _ hk => trivial), Z34⟩
end Go.Proofs.Ytnkecgldapagcaa.H
