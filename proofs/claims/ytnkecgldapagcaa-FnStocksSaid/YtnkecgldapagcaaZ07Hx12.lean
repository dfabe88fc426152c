-- by wip/pack.py of this repo
import Derived.Test.YtnkecgldapagcaaZ07Hx0
import Derived.Test.YtnkecgldapagcaaZ07Hx2
import Derived.Test.YtnkecgldapagcaaZ07Hx3
import Derived.Test.YtnkecgldapagcaaZ07Hx4
import Derived.Test.YtnkecgldapagcaaZ07Hx11
import Derived.Test.YtnkecgldapagcaaZ07WApart
import Derived.Test.YtnkecgldapagcaaZ07WLast
import Derived.Test.YtnkecgldapagcaaZ07WMore
import Derived.Test.YtnkecgldapagcaaZ07WN
import Derived.Test.YtnkecgldapagcaaZ07WWords
import Derived.Test.YtnkecgldapagcaaZ07Short
namespace Go.Proofs.Ytnkecgldapagcaa.H
open Go.RowKit Go.Proofs.YtnkecgldapagcaaW.PrintWords Go.Proofs.YtnkecgldapagcaaW.PrintLast Go.Proofs.YtnkecgldapagcaaW.PrintMore
attribute [local go_sem] max2_int min2_int max_two min_two max_three min_three max_four min_four
set_option maxHeartbeats 8000000
set_option maxRecDepth 100000
set_option linter.unusedVariables false
set_option linter.unusedSimpArgs false
mutual
def spec_ShortColors.j0 : Nat → List Int → List Int → List Int → Bool → Option (List Int × Bool)
 | 0, _, _, _, _ => none
 | k + 1, x2, x8, x9, x25 => if x25 = true then (some (x8, false)) else (spec_ShortColors.l0 k x2 x8 x9 0)
def spec_ShortColors.l0 : Nat → List Int → List Int → List Int → Int → Option (List Int × Bool)
 | 0, _, _, _, _ => none
 | k + 1, x2, x8, x9, x11 => if x11 < (x9.length : Int) then (if 0 ≤ x11 then (if x11 < (x2.length : Int) then (if (rd x2 x11) < (rd x9 x11) then (if x8.length < 17592186044416 then (spec_ShortColors.l0 k x2 (x8 ++ [x11]) x9 (wrap64 (x11 + 1))) else (none)) else (spec_ShortColors.l0 k x2 x8 x9 (wrap64 (x11 + 1)))) else (none)) else (none)) else (some (x8, true))
end
def spec_ShortColors.f (k : Nat) (a0_0 : Int) (a0_1 : Int) (l0_2 : List Int) (a1_0 : Int) (a1_1 : Int) (a1_2 : Int) (a1_3 : Int) (l2 : List Int) : Option (List Int × Bool) := (some (([] : List Int) : List Int)).bind fun y349 => ((spec_YarnByColor.f k a0_0 a0_1 l0_2 a1_0 a1_1 a1_2 a1_3).bind fun bt352 => (if bt352.2 = true then ((spec_l10Stock.f k l2).bind fun t356 => (spec_ShortColors.j0 k l2 y349 bt352.1 (!t356))) else (spec_ShortColors.j0 k l2 y349 bt352.1 true)))
theorem spec_ShortColors.calls (k : Nat) (a0_0 : Int) (a0_1 : Int) (A0_2 : Option Addr) (c0_2 : Nat) (l0_2 : List Int) (a1_0 : Int) (a1_1 : Int) (a1_2 : Int) (a1_3 : Int) (A2 : Option Addr) (c2 : Nat) (l2 : List Int) (r1 : List Int) (r2 : Bool) (w : World) (hr0_2 : Kd.C (Kd.int .i64) w A0_2 l0_2.length l0_2) (hc0_2 : l0_2.length ≤ c0_2) (hr2 : Kd.C (Kd.int .i64) w A2 l2.length l2) (hc2 : l2.length ≤ c2) (h : spec_ShortColors.f k a0_0 a0_1 l0_2 a1_0 a1_1 a1_2 a1_3 l2 = some (r1, r2)) :
  Calls Try.prog 23 #[.agg #[.int .i64 a0_0, .int .i64 a0_1, .slice A0_2 l0_2.length c0_2], .agg #[.int .i64 a1_0, .int .i64 a1_1, .int .i64 a1_2, .int .i64 a1_3], .slice A2 l2.length c2] w fun e w' => ∃ v0_ : Value, e = .returned (.tuple #[v0_, .bool r2]) ∧ Kd.R (Kd.int .i64) 3 w' w.heap.size (fun _ => True) v0_ r1 ∧ Below w.heap.size w w' := by
 have hu30 := Try.underlying30
 have hu32 := Try.underlying32
 have HR0_2 := Aside0.mk hr0_2
 have HC0_2 := Aside0.mk hc0_2
 clear hr0_2 hc0_2
 have HR2 := Aside0.mk hr2
 have HC2 := Aside0.mk hc2
 clear hr2 hc2
 have HB := Aside0.mk (Below.refl w.heap.size w)
 have H : ((some (([] : List Int) : List Int)).bind fun y349 => ((spec_YarnByColor.f k a0_0 a0_1 l0_2 a1_0 a1_1 a1_2 a1_3).bind fun bt352 => (if bt352.2 = true then ((spec_l10Stock.f k l2).bind fun t356 => (spec_ShortColors.j0 k l2 y349 bt352.1 (!t356))) else (spec_ShortColors.j0 k l2 y349 bt352.1 true)))) = some (r1, r2) := h
 clear h
 obtain ⟨y349, hy349⟩ : ∃ y_ : List Int, y_ = (([] : List Int)) := ⟨_, rfl⟩
 replace H : ((spec_YarnByColor.f k a0_0 a0_1 l0_2 a1_0 a1_1 a1_2 a1_3).bind fun bt352 => (if bt352.2 = true then ((spec_l10Stock.f k l2).bind fun t356 => (spec_ShortColors.j0 k l2 y349 bt352.1 (!t356))) else (spec_ShortColors.j0 k l2 y349 bt352.1 true))) = some (r1, r2) := by first | (rw [hy349]; with_reducible exact H) | (have H2_ := (Option.bind_some _ _).symm.trans H; rw [hy349]; with_reducible exact H2_) | (have H2_ := (Option.bind_some _ _).symm.trans H; with_reducible exact H2_) | with_reducible exact H | (rw [hy349]; exact H) | exact H
 have Ny349 := Aside0.mk hy349
 clear hy349
 replace H := Option.bind_eq_some_iff.mp H
 obtain ⟨⟨t352, t355⟩, A40, H⟩ := H
 replace H : (if t355 = true then ((spec_l10Stock.f k l2).bind fun t356 => (spec_ShortColors.j0 k l2 y349 t352 (!t356))) else (spec_ShortColors.j0 k l2 y349 t352 true)) = some (r1, r2) := H
 have A4 := Aside0.mk A40
 clear A40
 have HC5 := Aside0.mk H
 clear H
 go_enter Try.func23, Try.ntmps23
 go_upto_region 3 with (first | ((with_reducible refine gate_dst (N := 3) rfl ?_); refine bxE 3 #[.int .i64 a0_0, .int .i64 a0_1, .slice A0_2 l0_2.length c0_2] 30 ?_; intro gb347 hg w6 hbox hb; have BK347 := Aside0.mk (hbox); have GW347 := gwS hg Z1; have GE347 := gwS hg Z1; replace HB := hbS Z1 hb; clear hb hbox hg) | ((with_reducible refine gate_dst (N := 4) rfl ?_); refine bxE 4 #[.int .i64 a1_0, .int .i64 a1_1, .int .i64 a1_2, .int .i64 a1_3] 32 ?_; intro gb348 hg w7 hbox hb; have BK348 := Aside0.mk (hbox); have GW348 := gwS hg Z49; have GE348 := gwS hg Z49; replace HB := hbS Z49 hb; have NB347_348 := nbL hg BK347; have NB348_347 := nbG hg BK347; replace BK347 := bkB BK347 hb; clear hb hbox hg) | ((with_reducible refine gate_dst (N := 12) rfl ?_); refine Kd.R_lit (Kd.int .i64) _ 3 ?hg (N := 12) ?hd (xs := ([] : List Int)) (inner := []) (ok := fun _ => True) (okp := fun _ => True) ?hr ?hp (fun _ hk => hk) trivial (Below.refl _ _) (Nat.le_refl _) (by simp) ?_; (case hd => rfl); (case hg => rfl); (case hr => first | (go_simp; done) | (go_simp; rfl)); (case hp => exact (Reps.none _ _)); intro v350 w8 ho9 hb hg_ hnew_; clear hg_ hnew_; (first | rw [← Ny349.out] at ho9 | (simp only [Int.reduceToNat] at ho9; rw [← Ny349.out] at ho9)); have HO351 := Aside0.mk (Kd.R_lower ho9 (below_size Z17)); replace BK347 := bkB BK347 hb; replace BK348 := bkB BK348 hb; replace HB := hbS Z17 hb; clear hb ho9; have hnb10 := NB347_348.out; have hnc10 := NB348_347.out; obtain ⟨hcz11_0, hcz11_1, hcz11_2⟩ := bz3 BK347; obtain ⟨hfz11_0, hfz11_1, hfz11_2⟩ := fz3 BK347; obtain ⟨hcz12_0, hcz12_1, hcz12_2, hcz12_3⟩ := bz4 BK348; obtain ⟨hfz12_0, hfz12_1, hfz12_2, hfz12_3⟩ := fz4 BK348) | (go_at_call 12; (with_reducible refine (spec_YarnByColor.calls k a0_0 a0_1 _ _ l0_2 a1_0 a1_1 a1_2 a1_3 t352 t355 _ ?side1 ?side2 A4.out).mono ?_); (case side1 => exact Z12); (case side2 => exact HC0_2.out); rintro e w13 ⟨v353, rfl, ho0, hb⟩; have HO354 := Aside0.mk (Kd.R_lower (Kd.R_new' ho0 (Kd.R_lt Z95)) (below_size Z17)); replace HO351 := Aside0.mk (Kd.R_elder' Z95 (Kd.R_base ho0) hb); replace BK347 := bkB BK347 hb; replace BK348 := bkB BK348 hb; replace HB := hbS Z17 hb; (try clear hb); (try clear ho0)))
 repeat (go_quiet (first | ((with_reducible refine gate_dst (N := 3) rfl ?_); refine bxE 3 #[.int .i64 a0_0, .int .i64 a0_1, .slice A0_2 l0_2.length c0_2] 30 ?_; intro gb347 hg w6 hbox hb; have BK347 := Aside0.mk (hbox); have GW347 := gwS hg Z1; have GE347 := gwS hg Z1; replace HB := hbS Z1 hb; clear hb hbox hg) | ((with_reducible refine gate_dst (N := 4) rfl ?_); refine bxE 4 #[.int .i64 a1_0, .int .i64 a1_1, .int .i64 a1_2, .int .i64 a1_3] 32 ?_; intro gb348 hg w7 hbox hb; have BK348 := Aside0.mk (hbox); have GW348 := gwS hg Z49; have GE348 := gwS hg Z49; replace HB := hbS Z49 hb; have NB347_348 := nbL hg BK347; have NB348_347 := nbG hg BK347; replace BK347 := bkB BK347 hb; clear hb hbox hg) | ((with_reducible refine gate_dst (N := 12) rfl ?_); refine Kd.R_lit (Kd.int .i64) _ 3 ?hg (N := 12) ?hd (xs := ([] : List Int)) (inner := []) (ok := fun _ => True) (okp := fun _ => True) ?hr ?hp (fun _ hk => hk) trivial (Below.refl _ _) (Nat.le_refl _) (by simp) ?_; (case hd => rfl); (case hg => rfl); (case hr => first | (go_simp; done) | (go_simp; rfl)); (case hp => exact (Reps.none _ _)); intro v350 w8 ho9 hb hg_ hnew_; clear hg_ hnew_; (first | rw [← Ny349.out] at ho9 | (simp only [Int.reduceToNat] at ho9; rw [← Ny349.out] at ho9)); have HO351 := Aside0.mk (Kd.R_lower ho9 (below_size Z17)); replace BK347 := bkB BK347 hb; replace BK348 := bkB BK348 hb; replace HB := hbS Z17 hb; clear hb ho9; have hnb10 := NB347_348.out; have hnc10 := NB348_347.out; obtain ⟨hcz11_0, hcz11_1, hcz11_2⟩ := bz3 BK347; obtain ⟨hfz11_0, hfz11_1, hfz11_2⟩ := fz3 BK347; obtain ⟨hcz12_0, hcz12_1, hcz12_2, hcz12_3⟩ := bz4 BK348; obtain ⟨hfz12_0, hfz12_1, hfz12_2, hfz12_3⟩ := fz4 BK348) | (go_at_call 12; (with_reducible refine (spec_YarnByColor.calls k a0_0 a0_1 _ _ l0_2 a1_0 a1_1 a1_2 a1_3 t352 t355 _ ?side1 ?side2 A4.out).mono ?_); (case side1 => exact Z12); (case side2 => exact HC0_2.out); rintro e w13 ⟨v353, rfl, ho0, hb⟩; have HO354 := Aside0.mk (Kd.R_lower (Kd.R_new' ho0 (Kd.R_lt Z95)) (below_size Z17)); replace HO351 := Aside0.mk (Kd.R_elder' Z95 (Kd.R_base ho0) hb); replace BK347 := bkB BK347 hb; replace BK348 := bkB BK348 hb; replace HB := hbS Z17 hb; (try clear hb); (try clear ho0))); go_upto_region 3 with (first | ((with_reducible refine gate_dst (N := 3) rfl ?_); refine bxE 3 #[.int .i64 a0_0, .int .i64 a0_1, .slice A0_2 l0_2.length c0_2] 30 ?_; intro gb347 hg w6 hbox hb; have BK347 := Aside0.mk (hbox); have GW347 := gwS hg Z1; have GE347 := gwS hg Z1; replace HB := hbS Z1 hb; clear hb hbox hg) | ((with_reducible refine gate_dst (N := 4) rfl ?_); refine bxE 4 #[.int .i64 a1_0, .int .i64 a1_1, .int .i64 a1_2, .int .i64 a1_3] 32 ?_; intro gb348 hg w7 hbox hb; have BK348 := Aside0.mk (hbox); have GW348 := gwS hg Z49; have GE348 := gwS hg Z49; replace HB := hbS Z49 hb; have NB347_348 := nbL hg BK347; have NB348_347 := nbG hg BK347; replace BK347 := bkB BK347 hb; clear hb hbox hg) | ((with_reducible refine gate_dst (N := 12) rfl ?_); refine Kd.R_lit (Kd.int .i64) _ 3 ?hg (N := 12) ?hd (xs := ([] : List Int)) (inner := []) (ok := fun _ => True) (okp := fun _ => True) ?hr ?hp (fun _ hk => hk) trivial (Below.refl _ _) (Nat.le_refl _) (by simp) ?_; (case hd => rfl); (case hg => rfl); (case hr => first | (go_simp; done) | (go_simp; rfl)); (case hp => exact (Reps.none _ _)); intro v350 w8 ho9 hb hg_ hnew_; clear hg_ hnew_; (first | rw [← Ny349.out] at ho9 | (simp only [Int.reduceToNat] at ho9; rw [← Ny349.out] at ho9)); have HO351 := Aside0.mk (Kd.R_lower ho9 (below_size Z17)); replace BK347 := bkB BK347 hb; replace BK348 := bkB BK348 hb; replace HB := hbS Z17 hb; clear hb ho9; have hnb10 := NB347_348.out; have hnc10 := NB348_347.out; obtain ⟨hcz11_0, hcz11_1, hcz11_2⟩ := bz3 BK347; obtain ⟨hfz11_0, hfz11_1, hfz11_2⟩ := fz3 BK347; obtain ⟨hcz12_0, hcz12_1, hcz12_2, hcz12_3⟩ := bz4 BK348; obtain ⟨hfz12_0, hfz12_1, hfz12_2, hfz12_3⟩ := fz4 BK348) | (go_at_call 12; (with_reducible refine (spec_YarnByColor.calls k a0_0 a0_1 _ _ l0_2 a1_0 a1_1 a1_2 a1_3 t352 t355 _ ?side1 ?side2 A4.out).mono ?_); (case side1 => exact Z12); (case side2 => exact HC0_2.out); rintro e w13 ⟨v353, rfl, ho0, hb⟩; have HO354 := Aside0.mk (Kd.R_lower (Kd.R_new' ho0 (Kd.R_lt Z95)) (below_size Z17)); replace HO351 := Aside0.mk (Kd.R_elder' Z95 (Kd.R_base ho0) hb); replace BK347 := bkB BK347 hb; replace BK348 := bkB BK348 hb; replace HB := hbS Z17 hb; (try clear hb); (try clear ho0))))
 (try simp only [Act.put, List.setIfInBounds_toArray, List.set_cons_zero, List.set_cons_succ])
 go_cut [25] (fun v25 wc => ∃ (kq : Nat) (x25_4 : Bool), v25 = .bool x25_4 ∧ Aside0 (spec_ShortColors.j0 kq l2 y349 t352 x25_4 = some (r1, r2)) ∧ Aside0 (kq ≤ k) ∧ Aside0 (Kd.R (Kd.int .i64) 3 wc w.heap.size (fun k_ => some k_ ≠ (v353 : Value).ownBlock) v350 y349) ∧ Aside0 (Kd.R (Kd.int .i64) 3 wc w.heap.size (fun k_ => some k_ ≠ (v350 : Value).ownBlock) v353 t352) ∧ Aside0 (wc.heap[gb347]? = some (.cells #[.int .i64 a0_0, .int .i64 a0_1, (.slice A0_2 l0_2.length c0_2)] 30 (0, 0))) ∧ Aside0 (wc.heap[gb348]? = some (.cells #[.int .i64 a1_0, .int .i64 a1_1, .int .i64 a1_2, .int .i64 a1_3] 32 (0, 0))) ∧ Aside0 (Below w.heap.size w wc))
 case first =>
  have H := HC5.out
  clear HC5
  by_cases c14 : t355 = true
  ·subst c14
   have H1 : ((spec_l10Stock.f k l2).bind fun t356 => (spec_ShortColors.j0 k l2 y349 t352 (!t356))) = some (r1, r2) := by rw [if_pos rfl] at H; exact H
   clear H
   have H := H1
   clear H1
   replace H := Option.bind_eq_some_iff.mp H
   obtain ⟨t356, A150, H⟩ := H
   replace H : (spec_ShortColors.j0 k l2 y349 t352 (!t356)) = some (r1, r2) := H
   have A15 := Aside0.mk A150
   clear A150
   have H' := Aside0.mk H
   clear H
   go_wp2_with (first | (go_at_call 54; (with_reducible refine (spec_l10Stock.calls k _ _ l2 t356 _ ?side1 ?side2 A15.out).mono ?_); (case side1 => exact Z45); (case side2 => exact HC2.out); rintro e w' ⟨rfl, ⟨nd, rfl⟩⟩; (try first | exact ⟨rfl, _, World.drewN_drewN _ _ _⟩ | exact ⟨rfl, _, Eq.trans (World.drewN_drewN _ _ _) (congrArg (World.drewN _) (Nat.add_assoc _ _ _))⟩)))
   repeat (go_quiet (first | (go_at_call 54; (with_reducible refine (spec_l10Stock.calls k _ _ l2 t356 _ ?side1 ?side2 A15.out).mono ?_); (case side1 => exact Z45); (case side2 => exact HC2.out); rintro e w' ⟨rfl, ⟨nd, rfl⟩⟩; (try first | exact ⟨rfl, _, World.drewN_drewN _ _ _⟩ | exact ⟨rfl, _, Eq.trans (World.drewN_drewN _ _ _) (congrArg (World.drewN _) (Nat.add_assoc _ _ _))⟩))); try go_wp2_with (first | (go_at_call 54; (with_reducible refine (spec_l10Stock.calls k _ _ l2 t356 _ ?side1 ?side2 A15.out).mono ?_); (case side1 => exact Z45); (case side2 => exact HC2.out); rintro e w' ⟨rfl, ⟨nd, rfl⟩⟩; (try first | exact ⟨rfl, _, World.drewN_drewN _ _ _⟩ | exact ⟨rfl, _, Eq.trans (World.drewN_drewN _ _ _) (congrArg (World.drewN _) (Nat.add_assoc _ _ _))⟩))))
   go_meet
   case rel => exact ⟨_, (!t356), Z20, H', ⟨Z91⟩, ⟨Z154⟩, ⟨Z155⟩, ⟨Z65⟩, ⟨Z66⟩, ⟨Z17⟩⟩
  ·replace c14 := Bool.eq_false_iff.mpr c14
   subst c14
   have H1 : (spec_ShortColors.j0 k l2 y349 t352 true) = some (r1, r2) := by rw [if_neg (show ¬ (false = true) by decide)] at H; exact H
   clear H
   have H := H1
   clear H1
   have H' := Aside0.mk H
   clear H
   go_wp2
   repeat (go_quiet (fail); try go_wp2)
   go_meet
   case rel => exact ⟨_, (true), Z20, H', ⟨Z91⟩, ⟨Z154⟩, ⟨Z155⟩, ⟨Z65⟩, ⟨Z66⟩, ⟨Z17⟩⟩
 case rest =>
  clear HC5
  try clear c1
  try clear c2
  try clear p2
  try clear c10
  try clear c14
  try clear hcz11_0
  try clear hcz11_1
  try clear hcz11_2
  try clear hcz12_0
  try clear hcz12_1
  try clear hcz12_2
  try clear hcz12_3
  try clear hfz11_0
  try clear hfz11_1
  try clear hfz11_2
  try clear hfz12_0
  try clear hfz12_1
  try clear hfz12_2
  try clear hfz12_3
  obtain ⟨kq, x25_4, rfl, HA, HJ4, HO_8, HO_9, BK347, BK348, HB⟩ := hcut
  cases kq with
  | zero => exact absurd HA.out (by simp [spec_ShortColors.j0])
  | succ kj4 =>
   have H := HA.out
   clear HA
   simp only [spec_ShortColors.j0] at H
   by_cases c16 : x25_4 = true
   ·subst c16
    have H1 : (some (y349, false)) = some (r1, r2) := by rw [if_pos rfl] at H; exact H
    clear H
    have H := H1
    clear H1
    simp only [Option.some.injEq, Prod.mk.injEq] at H
    obtain ⟨rfl, rfl⟩ := H
    go_wp2
    repeat (go_quiet (fail); try go_wp2)
    go_ret2
    exact ⟨_, Z11, Z152, Z17⟩
   ·replace c16 := Bool.eq_false_iff.mpr c16
    subst c16
    have H1 : (spec_ShortColors.l0 kj4 l2 y349 t352 0) = some (r1, r2) := by rw [if_neg (show ¬ (false = true) by decide)] at H; exact H
    clear H
    have H := H1
    clear H1
    have H' := Aside0.mk H
    clear H
    go_wp2
    repeat (go_quiet (fail); try go_wp2)
    go_loopg [8, 11] kj4 (fun kq v8 v11 w' => ∃ (x8_2 : List Int) (x11_2 : Int), v11 = .int .i64 x11_2 ∧ Aside0 (spec_ShortColors.l0 kq l2 x8_2 t352 x11_2 = some (r1, r2)) ∧ Aside0 (kq ≤ kj4) ∧ Aside0 (Kd.R (Kd.int .i64) 3 w' w.heap.size (fun k_ => some k_ ≠ (v353 : Value).ownBlock) v8 x8_2) ∧ Aside0 (Kd.R (Kd.int .i64) 3 w' w.heap.size (fun k_ => some k_ ≠ (v8 : Value).ownBlock) v353 t352) ∧ Aside0 (w'.heap[gb347]? = some (.cells #[.int .i64 a0_0, .int .i64 a0_1, (.slice A0_2 l0_2.length c0_2)] 30 (0, 0))) ∧ Aside0 (w'.heap[gb348]? = some (.cells #[.int .i64 a1_0, .int .i64 a1_1, .int .i64 a1_2, .int .i64 a1_3] 32 (0, 0))) ∧ Aside0 (Below w.heap.size w w'))
    case atStart => exact ⟨(y349), (0), Z20, H', ⟨Nat.le_refl _⟩, ⟨Z78⟩, ⟨Z107⟩, ⟨Z65⟩, ⟨Z66⟩, ⟨Z17⟩⟩
    case round =>
     clear H'
     try clear c1
     try clear c2
     try clear p2
     try clear c10
     try clear c14
     try clear c16
     try clear hcz11_0
     try clear hcz11_1
     try clear hcz11_2
     try clear hcz12_0
     try clear hcz12_1
     try clear hcz12_2
     try clear hcz12_3
     try clear hfz11_0
     try clear hfz11_1
     try clear hfz11_2
     try clear hfz12_0
     try clear hfz12_1
     try clear hfz12_2
     try clear hfz12_3
     try clear p2
     obtain ⟨x8_2, x11_2, rfl, HA, HK2, HO_8, HO_9, BK347, BK348, HB⟩ := hrel
     cases gk with
     | zero => exact absurd HA.out (by simp [spec_ShortColors.l0])
     | succ k2 =>
      have H := HA.out
      clear HA
      simp only [spec_ShortColors.l0] at H
      by_cases c17 : x11_2 < (t352.length : Int)
      ·rw [if_pos c17] at H
       have c17b0 : decide (x11_2 < (t352.length : Int)) = true := decide_eq_true c17
       clear c17
       by_cases c18 : 0 ≤ x11_2
       ·rw [if_pos c18] at H
        have c18b0 : decide (0 ≤ x11_2) = true := decide_eq_true c18
        clear c18
        by_cases c19 : x11_2 < (l2.length : Int)
        ·rw [if_pos c19] at H
         have c19b0 : decide (x11_2 < (l2.length : Int)) = true := decide_eq_true c19
         clear c19
         by_cases c20 : (rd l2 x11_2) < (rd t352 x11_2)
         ·rw [if_pos c20] at H
          have c20b0 : decide ((rd l2 x11_2) < (rd t352 x11_2)) = true := decide_eq_true c20
          clear c20
          by_cases c21 : x8_2.length < 17592186044416
          ·rw [if_pos c21] at H
           have LMc21 := Aside0.mk c21
           clear c21
           obtain ⟨y359, hy359⟩ : ∃ y_ : List Int, y_ = (x8_2 ++ [x11_2]) := ⟨_, rfl⟩
           replace H : (spec_ShortColors.l0 k2 l2 y359 t352 (wrap64 (x11_2 + 1))) = some (r1, r2) := by first | (rw [hy359]; with_reducible exact H) | (have H2_ := (Option.bind_some _ _).symm.trans H; rw [hy359]; with_reducible exact H2_) | (have H2_ := (Option.bind_some _ _).symm.trans H; with_reducible exact H2_) | with_reducible exact H | (rw [hy359]; exact H) | exact H
           have Ny359 := Aside0.mk hy359
           clear hy359
           have H' := Aside0.mk H
           clear H
           obtain ⟨Ao22, co22, eo22⟩ := Kd.R_slice HO_9.out
           subst eo22
           have p357 : 0 ≤ (x11_2 : Int) := of_decide_eq_true Z19
           have q357 : x11_2 < (l2.length : Int) := of_decide_eq_true Z19
           obtain ⟨ad357, e357, hx357_0⟩ := Kd.at_int HR2.out x11_2 p357 q357
           cases e357
           replace hx357_0 := (HB.out.cell (World.block_lt_of_cell? w _ hx357_0)).trans hx357_0
           replace p357 := eq_true p357
           replace q357 := eq_true q357
           have p358 : 0 ≤ (x11_2 : Int) := of_decide_eq_true Z19
           have q358 : x11_2 < (t352.length : Int) := of_decide_eq_true Z19
           obtain ⟨ad358, e358, hx358_0⟩ := Kd.at_int (Kd.R_reads' HO_9.out).2.2 x11_2 p358 q358
           cases e358
           replace p358 := eq_true p358
           replace q358 := eq_true q358
           go_wp2_with (first | ((with_reducible refine gate_builtin (b := .append) (xs := #[.tmp 42, .tmp 44]) rfl ?_); at_builtin; refine Kd.R_append (Kd.int .i64) (w0 := w) w.heap.size rfl (.tmp 42) (.tmp 44) 22 3 (.int .i64 0) 8 rfl Try.underlying22 info3 rfl (by decide) (by omega) u8 x8_2 x11_2 [.int .i64 x11_2] (fun k_ => some k_ ≠ (.slice (some ad358) t352.length co22 : Value).ownBlock) (fun _ => False) rfl rfl ?aP (fun _ hk => hk.elim) ?aF ?aO ?aB ?aS ?aL ?_; (case aP => exact rfl); (case aB => exact Z17); (case aF => exact (fun k_ hk => Kd.fresh' (Kd.R_lt Z107) k_ hk)); (case aO => exact Z78); (case aS => exact (below_size Z17)); (case aL => have := LMc21.out; omega); intro v360 w23 ho hb hg hat; rw [← Ny359.out] at ho; replace HO_9 := Aside0.mk (Kd.R_after (ok := (fun _ => True)) Z119 hg hat); replace BK347 := Aside0.mk (blk_grown (g := gb347) (o := .cells #[.int .i64 a0_0, .int .i64 a0_1, .slice A0_2 l0_2.length c0_2] 30 (0, 0)) Z65 hg (Kd.R_ne HO_8.out BK347.out (by decide))); replace BK348 := Aside0.mk (blk_grown (g := gb348) (o := .cells #[.int .i64 a1_0, .int .i64 a1_1, .int .i64 a1_2, .int .i64 a1_3] 32 (0, 0)) Z66 hg (Kd.R_ne HO_8.out BK348.out (by decide))); replace HB := Aside0.mk (hb); have HO361 := Aside0.mk (ho); clear HO_8; clear ho hb hg hat))
           repeat (go_quiet (first | ((with_reducible refine gate_builtin (b := .append) (xs := #[.tmp 42, .tmp 44]) rfl ?_); at_builtin; refine Kd.R_append (Kd.int .i64) (w0 := w) w.heap.size rfl (.tmp 42) (.tmp 44) 22 3 (.int .i64 0) 8 rfl Try.underlying22 info3 rfl (by decide) (by omega) u8 x8_2 x11_2 [.int .i64 x11_2] (fun k_ => some k_ ≠ (.slice (some ad358) t352.length co22 : Value).ownBlock) (fun _ => False) rfl rfl ?aP (fun _ hk => hk.elim) ?aF ?aO ?aB ?aS ?aL ?_; (case aP => exact rfl); (case aB => exact Z17); (case aF => exact (fun k_ hk => Kd.fresh' (Kd.R_lt Z107) k_ hk)); (case aO => exact Z78); (case aS => exact (below_size Z17)); (case aL => have := LMc21.out; omega); intro v360 w23 ho hb hg hat; rw [← Ny359.out] at ho; replace HO_9 := Aside0.mk (Kd.R_after (ok := (fun _ => True)) Z119 hg hat); replace BK347 := Aside0.mk (blk_grown (g := gb347) (o := .cells #[.int .i64 a0_0, .int .i64 a0_1, .slice A0_2 l0_2.length c0_2] 30 (0, 0)) Z65 hg (Kd.R_ne HO_8.out BK347.out (by decide))); replace BK348 := Aside0.mk (blk_grown (g := gb348) (o := .cells #[.int .i64 a1_0, .int .i64 a1_1, .int .i64 a1_2, .int .i64 a1_3] 32 (0, 0)) Z66 hg (Kd.R_ne HO_8.out BK348.out (by decide))); replace HB := Aside0.mk (hb); have HO361 := Aside0.mk (ho); clear HO_8; clear ho hb hg hat)); try go_wp2_with (first | ((with_reducible refine gate_builtin (b := .append) (xs := #[.tmp 42, .tmp 44]) rfl ?_); at_builtin; refine Kd.R_append (Kd.int .i64) (w0 := w) w.heap.size rfl (.tmp 42) (.tmp 44) 22 3 (.int .i64 0) 8 rfl Try.underlying22 info3 rfl (by decide) (by omega) u8 x8_2 x11_2 [.int .i64 x11_2] (fun k_ => some k_ ≠ (.slice (some ad358) t352.length co22 : Value).ownBlock) (fun _ => False) rfl rfl ?aP (fun _ hk => hk.elim) ?aF ?aO ?aB ?aS ?aL ?_; (case aP => exact rfl); (case aB => exact Z17); (case aF => exact (fun k_ hk => Kd.fresh' (Kd.R_lt Z107) k_ hk)); (case aO => exact Z78); (case aS => exact (below_size Z17)); (case aL => have := LMc21.out; omega); intro v360 w23 ho hb hg hat; rw [← Ny359.out] at ho; replace HO_9 := Aside0.mk (Kd.R_after (ok := (fun _ => True)) Z119 hg hat); replace BK347 := Aside0.mk (blk_grown (g := gb347) (o := .cells #[.int .i64 a0_0, .int .i64 a0_1, .slice A0_2 l0_2.length c0_2] 30 (0, 0)) Z65 hg (Kd.R_ne HO_8.out BK347.out (by decide))); replace BK348 := Aside0.mk (blk_grown (g := gb348) (o := .cells #[.int .i64 a1_0, .int .i64 a1_1, .int .i64 a1_2, .int .i64 a1_3] 32 (0, 0)) Z66 hg (Kd.R_ne HO_8.out BK348.out (by decide))); replace HB := Aside0.mk (hb); have HO361 := Aside0.mk (ho); clear HO_8; clear ho hb hg hat)))
           go_roundg k2
           case measure => have := HJ4.out; have := HK2.out; omega
           case rel => exact ⟨(y359), (wrap64 (x11_2 + 1)), Z20, H', ⟨by have := HJ4.out; have := HK2.out; omega⟩, ⟨by (with_reducible repeat (first | apply Kd.R_alloc | apply Kd.R_drewN | apply Kd.R_drew)); exact HO361.out⟩, ⟨by (with_reducible repeat (first | apply Kd.R_alloc | apply Kd.R_drewN | apply Kd.R_drew)); exact Kd.R_mono HO_9.out (fun _ hk => hk.2)⟩, ⟨Z65⟩, ⟨Z66⟩, ⟨Z17⟩⟩
          ·rw [if_neg c21] at H
           exact absurd H (by simp)
         ·rw [if_neg c20] at H
          have c20b0 : decide ((rd l2 x11_2) < (rd t352 x11_2)) = false := decide_eq_false c20
          clear c20
          have H' := Aside0.mk H
          clear H
          obtain ⟨Ao24, co24, eo24⟩ := Kd.R_slice HO_9.out
          subst eo24
          have p357 : 0 ≤ (x11_2 : Int) := of_decide_eq_true Z19
          have q357 : x11_2 < (l2.length : Int) := of_decide_eq_true Z19
          obtain ⟨ad357, e357, hx357_0⟩ := Kd.at_int HR2.out x11_2 p357 q357
          cases e357
          replace hx357_0 := (HB.out.cell (World.block_lt_of_cell? w _ hx357_0)).trans hx357_0
          replace p357 := eq_true p357
          replace q357 := eq_true q357
          have p358 : 0 ≤ (x11_2 : Int) := of_decide_eq_true Z19
          have q358 : x11_2 < (t352.length : Int) := of_decide_eq_true Z19
          obtain ⟨ad358, e358, hx358_0⟩ := Kd.at_int (Kd.R_reads' HO_9.out).2.2 x11_2 p358 q358
          cases e358
          replace p358 := eq_true p358
          replace q358 := eq_true q358
          go_wp2
          repeat (go_quiet (fail); try go_wp2)
          go_roundg k2
          case measure => have := HJ4.out; have := HK2.out; omega
          case rel => exact ⟨(x8_2), (wrap64 (x11_2 + 1)), Z20, H', ⟨by have := HJ4.out; have := HK2.out; omega⟩, ⟨Z78⟩, ⟨Z107⟩, ⟨Z65⟩, ⟨Z66⟩, ⟨Z17⟩⟩
        ·rw [if_neg c19] at H
         exact absurd H (by simp)
       ·rw [if_neg c18] at H
        exact absurd H (by simp)
      ·rw [if_neg c17] at H
       have c17b0 : decide (x11_2 < (t352.length : Int)) = false := decide_eq_false c17
       clear c17
       simp only [Option.some.injEq, Prod.mk.injEq] at H
       obtain ⟨rfl, rfl⟩ := H
       obtain ⟨Ao25, co25, eo25⟩ := Kd.R_slice HO_9.out
       subst eo25
       go_wp2
       repeat (go_quiet (fail); try go_wp2)
       go_ret2
       exact ⟨_, Z11, Z152, Z17⟩
def impl_ShortColors.j0 : Nat → List Int → Bool → Int → Int → List Int → Int → Int → Int → Int → Option (List Int × Bool)
 | 0, _, _, _, _, _, _, _, _, _ => none
 | k + 1, x2, x20, x372000, x372001, x372002, x373000, x373001, x373002, x373003 => if x20 = true then (some (([] : List Int), false)) else ((impl_Yarn_yarns.f k x373000 x373001 x373002 x373003 x372000 x372001 x372002 1).bind fun t376 => ((impl_short.f k t376 x2).bind fun t379 => (some (t379, true))))
def impl_ShortColors.f (k : Nat) (a0_0 : Int) (a0_1 : Int) (l0_2 : List Int) (a1_0 : Int) (a1_1 : Int) (a1_2 : Int) (a1_3 : Int) (l2 : List Int) : Option (List Int × Bool) := (impl_IsChart.f a0_0 a0_1 l0_2).bind fun t373 => (if t373 = true then ((impl_IsYarn.f a1_0 a1_1 a1_2 a1_3).bind fun t374 => (if t374 = true then ((impl_isYarnStock.f l2).bind fun t375 => (impl_ShortColors.j0 k l2 (!t375) a0_0 a0_1 l0_2 a1_0 a1_1 a1_2 a1_3)) else (impl_ShortColors.j0 k l2 true a0_0 a0_1 l0_2 a1_0 a1_1 a1_2 a1_3))) else (impl_ShortColors.j0 k l2 true a0_0 a0_1 l0_2 a1_0 a1_1 a1_2 a1_3))
theorem impl_ShortColors.calls (k : Nat) (a0_0 : Int) (a0_1 : Int) (A0_2 : Option Addr) (c0_2 : Nat) (l0_2 : List Int) (a1_0 : Int) (a1_1 : Int) (a1_2 : Int) (a1_3 : Int) (A2 : Option Addr) (c2 : Nat) (l2 : List Int) (r1 : List Int) (r2 : Bool) (w : World) (hr0_2 : Kd.C (Kd.int .i64) w A0_2 l0_2.length l0_2) (hc0_2 : l0_2.length ≤ c0_2) (hr2 : Kd.C (Kd.int .i64) w A2 l2.length l2) (hc2 : l2.length ≤ c2) (h : impl_ShortColors.f k a0_0 a0_1 l0_2 a1_0 a1_1 a1_2 a1_3 l2 = some (r1, r2)) :
  Calls Try.prog 25 #[.agg #[.int .i64 a0_0, .int .i64 a0_1, .slice A0_2 l0_2.length c0_2], .agg #[.int .i64 a1_0, .int .i64 a1_1, .int .i64 a1_2, .int .i64 a1_3], .slice A2 l2.length c2] w fun e w' => ∃ v0_ : Value, e = .returned (.tuple #[v0_, .bool r2]) ∧ Kd.R (Kd.int .i64) 3 w' w.heap.size (fun _ => True) v0_ r1 ∧ Below w.heap.size w w' := by
 have hu30 := Try.underlying30
 have hu32 := Try.underlying32
 have HR0_2 := Aside0.mk hr0_2
 have HC0_2 := Aside0.mk hc0_2
 clear hr0_2 hc0_2
 have HR2 := Aside0.mk hr2
 have HC2 := Aside0.mk hc2
 clear hr2 hc2
 have HB := Aside0.mk (Below.refl w.heap.size w)
 have H : ((impl_IsChart.f a0_0 a0_1 l0_2).bind fun t373 => (if t373 = true then ((impl_IsYarn.f a1_0 a1_1 a1_2 a1_3).bind fun t374 => (if t374 = true then ((impl_isYarnStock.f l2).bind fun t375 => (impl_ShortColors.j0 k l2 (!t375) a0_0 a0_1 l0_2 a1_0 a1_1 a1_2 a1_3)) else (impl_ShortColors.j0 k l2 true a0_0 a0_1 l0_2 a1_0 a1_1 a1_2 a1_3))) else (impl_ShortColors.j0 k l2 true a0_0 a0_1 l0_2 a1_0 a1_1 a1_2 a1_3))) = some (r1, r2) := h
 clear h
 have HC4 := Aside0.mk H
 clear H
 go_enter Try.func25, Try.ntmps25
 go_upto_region 1 with (first | ((with_reducible refine gate_dst (N := 3) rfl ?_); refine bxE 3 #[.int .i64 a0_0, .int .i64 a0_1, .slice A0_2 l0_2.length c0_2] 30 ?_; intro gb371 hg w5 hbox hb; have BK371 := Aside0.mk (hbox); have GW371 := gwS hg Z1; have GE371 := gwS hg Z1; replace HB := hbS Z1 hb; clear hb hbox hg) | ((with_reducible refine gate_dst (N := 4) rfl ?_); refine bxE 4 #[.int .i64 a1_0, .int .i64 a1_1, .int .i64 a1_2, .int .i64 a1_3] 32 ?_; intro gb372 hg w6 hbox hb; have BK372 := Aside0.mk (hbox); have GW372 := gwS hg Z111; have GE372 := gwS hg Z111; replace HB := hbS Z111 hb; have NB371_372 := nbL hg BK371; have NB372_371 := nbG hg BK371; replace BK371 := bkB BK371 hb; clear hb hbox hg))
 (try simp only [Act.put, List.setIfInBounds_toArray, List.set_cons_zero, List.set_cons_succ])
 go_cut [20] (fun v20 wc => ∃ (kq : Nat) (x20_3 : Bool), v20 = .bool x20_3 ∧ Aside0 (impl_ShortColors.j0 kq l2 x20_3 a0_0 a0_1 l0_2 a1_0 a1_1 a1_2 a1_3 = some (r1, r2)) ∧ Aside0 (kq ≤ k) ∧ Aside0 (wc.heap[gb371]? = some (.cells #[.int .i64 a0_0, .int .i64 a0_1, (.slice A0_2 l0_2.length c0_2)] 30 (0, 0))) ∧ Aside0 (wc.heap[gb372]? = some (.cells #[.int .i64 a1_0, .int .i64 a1_1, .int .i64 a1_2, .int .i64 a1_3] 32 (0, 0))) ∧ Aside0 (Below w.heap.size w wc))
 case first =>
  have H := HC4.out
  clear HC4
  replace H := Option.bind_eq_some_iff.mp H
  obtain ⟨t373, A70, H⟩ := H
  replace H : (if t373 = true then ((impl_IsYarn.f a1_0 a1_1 a1_2 a1_3).bind fun t374 => (if t374 = true then ((impl_isYarnStock.f l2).bind fun t375 => (impl_ShortColors.j0 k l2 (!t375) a0_0 a0_1 l0_2 a1_0 a1_1 a1_2 a1_3)) else (impl_ShortColors.j0 k l2 true a0_0 a0_1 l0_2 a1_0 a1_1 a1_2 a1_3))) else (impl_ShortColors.j0 k l2 true a0_0 a0_1 l0_2 a1_0 a1_1 a1_2 a1_3)) = some (r1, r2) := H
  have A7 := Aside0.mk A70
  clear A70
  by_cases c8 : t373 = true
  ·subst c8
   have H1 : ((impl_IsYarn.f a1_0 a1_1 a1_2 a1_3).bind fun t374 => (if t374 = true then ((impl_isYarnStock.f l2).bind fun t375 => (impl_ShortColors.j0 k l2 (!t375) a0_0 a0_1 l0_2 a1_0 a1_1 a1_2 a1_3)) else (impl_ShortColors.j0 k l2 true a0_0 a0_1 l0_2 a1_0 a1_1 a1_2 a1_3))) = some (r1, r2) := by rw [if_pos rfl] at H; exact H
   clear H
   have H := H1
   clear H1
   replace H := Option.bind_eq_some_iff.mp H
   obtain ⟨t374, A90, H⟩ := H
   replace H : (if t374 = true then ((impl_isYarnStock.f l2).bind fun t375 => (impl_ShortColors.j0 k l2 (!t375) a0_0 a0_1 l0_2 a1_0 a1_1 a1_2 a1_3)) else (impl_ShortColors.j0 k l2 true a0_0 a0_1 l0_2 a1_0 a1_1 a1_2 a1_3)) = some (r1, r2) := H
   have A9 := Aside0.mk A90
   clear A90
   by_cases c10 : t374 = true
   ·subst c10
    have H1 : ((impl_isYarnStock.f l2).bind fun t375 => (impl_ShortColors.j0 k l2 (!t375) a0_0 a0_1 l0_2 a1_0 a1_1 a1_2 a1_3)) = some (r1, r2) := by rw [if_pos rfl] at H; exact H
    clear H
    have H := H1
    clear H1
    replace H := Option.bind_eq_some_iff.mp H
    obtain ⟨t375, A110, H⟩ := H
    replace H : (impl_ShortColors.j0 k l2 (!t375) a0_0 a0_1 l0_2 a1_0 a1_1 a1_2 a1_3) = some (r1, r2) := H
    have A11 := Aside0.mk A110
    clear A110
    have H' := Aside0.mk H
    clear H
    have hnb12 := NB371_372.out
    have hnc12 := NB372_371.out
    obtain ⟨hcz13_0, hcz13_1, hcz13_2⟩ := bz3 BK371
    obtain ⟨hfz13_0, hfz13_1, hfz13_2⟩ := fz3 BK371
    go_wp2_with (first | ((with_reducible refine gate_callee (f := 51) rfl ?_); refine glE (some 9) Try.func51 #[.agg #[.int .i64 a0_0, .int .i64 a0_1, .slice A0_2 l0_2.length c0_2]] ?_; (with_reducible refine (impl_IsChart.calls a0_0 a0_1 _ _ l0_2 true _ ?side1 ?side2 A7.out).mono ?_); (case side1 => exact Z12); (case side2 => exact HC0_2.out); rintro e w14 ⟨rfl, hb⟩; refine ⟨_, rfl, ?_⟩; replace BK371 := bkB BK371 hb; replace BK372 := bkB BK372 hb; replace HB := hbS Z35 hb; (try clear hb); obtain ⟨hcz15_0, hcz15_1, hcz15_2, hcz15_3⟩ := bz4 BK372; obtain ⟨hfz15_0, hfz15_1, hfz15_2, hfz15_3⟩ := fz4 BK372) | (go_at_call 36; (with_reducible refine (impl_IsYarn.calls a1_0 a1_1 a1_2 a1_3 true _ A9.out).mono ?_); rintro e w16 ⟨rfl, hb⟩; replace BK371 := bkB BK371 hb; replace BK372 := bkB BK372 hb; replace HB := hbS Z35 hb; (try clear hb)) | (go_at_call 55; (with_reducible refine (impl_isYarnStock.calls _ _ l2 t375 _ ?side1 ?side2 A11.out).mono ?_); (case side1 => exact Z45); (case side2 => exact HC2.out); rintro e w17 ⟨rfl, hb⟩; replace BK371 := bkB BK371 hb; replace BK372 := bkB BK372 hb; replace HB := hbS Z35 hb; (try clear hb)))
    go_meet
    case rel => exact ⟨_, (!t375), Z20, H', ⟨Z91⟩, ⟨Z132⟩, ⟨Z133⟩, ⟨Z35⟩⟩
   ·replace c10 := Bool.eq_false_iff.mpr c10
    subst c10
    have H1 : (impl_ShortColors.j0 k l2 true a0_0 a0_1 l0_2 a1_0 a1_1 a1_2 a1_3) = some (r1, r2) := by rw [if_neg (show ¬ (false = true) by decide)] at H; exact H
    clear H
    have H := H1
    clear H1
    have H' := Aside0.mk H
    clear H
    have hnb18 := NB371_372.out
    have hnc18 := NB372_371.out
    obtain ⟨hcz19_0, hcz19_1, hcz19_2⟩ := bz3 BK371
    obtain ⟨hfz19_0, hfz19_1, hfz19_2⟩ := fz3 BK371
    go_wp2_with (first | ((with_reducible refine gate_callee (f := 51) rfl ?_); refine glE (some 9) Try.func51 #[.agg #[.int .i64 a0_0, .int .i64 a0_1, .slice A0_2 l0_2.length c0_2]] ?_; (with_reducible refine (impl_IsChart.calls a0_0 a0_1 _ _ l0_2 true _ ?side1 ?side2 A7.out).mono ?_); (case side1 => exact Z12); (case side2 => exact HC0_2.out); rintro e w20 ⟨rfl, hb⟩; refine ⟨_, rfl, ?_⟩; replace BK371 := bkB BK371 hb; replace BK372 := bkB BK372 hb; replace HB := hbS Z35 hb; (try clear hb); obtain ⟨hcz21_0, hcz21_1, hcz21_2, hcz21_3⟩ := bz4 BK372; obtain ⟨hfz21_0, hfz21_1, hfz21_2, hfz21_3⟩ := fz4 BK372) | (go_at_call 36; (with_reducible refine (impl_IsYarn.calls a1_0 a1_1 a1_2 a1_3 false _ A9.out).mono ?_); rintro e w22 ⟨rfl, hb⟩; replace BK371 := bkB BK371 hb; replace BK372 := bkB BK372 hb; replace HB := hbS Z35 hb; (try clear hb)))
    go_meet
    case rel => exact ⟨_, (true), Z20, H', ⟨Z91⟩, ⟨Z132⟩, ⟨Z133⟩, ⟨Z35⟩⟩
  ·replace c8 := Bool.eq_false_iff.mpr c8
   subst c8
   have H1 : (impl_ShortColors.j0 k l2 true a0_0 a0_1 l0_2 a1_0 a1_1 a1_2 a1_3) = some (r1, r2) := by rw [if_neg (show ¬ (false = true) by decide)] at H; exact H
   clear H
   have H := H1
   clear H1
   have H' := Aside0.mk H
   clear H
   have hnb23 := NB371_372.out
   have hnc23 := NB372_371.out
   obtain ⟨hcz24_0, hcz24_1, hcz24_2⟩ := bz3 BK371
   obtain ⟨hfz24_0, hfz24_1, hfz24_2⟩ := fz3 BK371
   go_wp2_with (first | ((with_reducible refine gate_callee (f := 51) rfl ?_); refine glE (some 9) Try.func51 #[.agg #[.int .i64 a0_0, .int .i64 a0_1, .slice A0_2 l0_2.length c0_2]] ?_; (with_reducible refine (impl_IsChart.calls a0_0 a0_1 _ _ l0_2 false _ ?side1 ?side2 A7.out).mono ?_); (case side1 => exact Z12); (case side2 => exact HC0_2.out); rintro e w25 ⟨rfl, hb⟩; refine ⟨_, rfl, ?_⟩; replace BK371 := bkB BK371 hb; replace BK372 := bkB BK372 hb; replace HB := hbS Z35 hb; (try clear hb)))
   go_meet
   case rel => exact ⟨_, (true), Z20, H', ⟨Z91⟩, ⟨Z132⟩, ⟨Z133⟩, ⟨Z35⟩⟩
 case rest =>
  clear HC4
  try clear c1
  try clear c2
  try clear p2
  try clear c5
  try clear c8
  try clear c10
  try clear c12
  try clear c18
  try clear c23
  try clear c25
  try clear hcz13_0
  try clear hcz13_1
  try clear hcz13_2
  try clear hcz15_0
  try clear hcz15_1
  try clear hcz15_2
  try clear hcz15_3
  try clear hcz19_0
  try clear hcz19_1
  try clear hcz19_2
  try clear hcz21_0
  try clear hcz21_1
  try clear hcz21_2
  try clear hcz21_3
  try clear hcz24_0
  try clear hcz24_1
  try clear hcz24_2
  try clear hfz13_0
  try clear hfz13_1
  try clear hfz13_2
  try clear hfz15_0
  try clear hfz15_1
  try clear hfz15_2
  try clear hfz15_3
  try clear hfz19_0
  try clear hfz19_1
  try clear hfz19_2
  try clear hfz21_0
  try clear hfz21_1
  try clear hfz21_2
  try clear hfz21_3
  try clear hfz24_0
  try clear hfz24_1
  try clear hfz24_2
  obtain ⟨kq, x20_3, rfl, HA, HJ3, BK371, BK372, HB⟩ := hcut
  cases kq with
  | zero => exact absurd HA.out (by simp [impl_ShortColors.j0])
  | succ kj3 =>
   have H := HA.out
   clear HA
   simp only [impl_ShortColors.j0] at H
   by_cases c26 : x20_3 = true
   ·subst c26
    have H1 : (some (([] : List Int), false)) = some (r1, r2) := by rw [if_pos rfl] at H; exact H
    clear H
    have H := H1
    clear H1
    simp only [Option.some.injEq, Prod.mk.injEq] at H
    obtain ⟨rfl, rfl⟩ := H
    go_wp2
    go_ret2
    exact ⟨_, Z11, by first | exact Kd.R_nil _ _ _ _ _ | exact Kd.N_nil _ _ _ _ _ | exact Kd.V_nil _ _ _ _ _ | exact Kd.Q_nil _ _ _ _ _ | exact Kd.S_nil _ _ _ _ _, Z35⟩
   ·replace c26 := Bool.eq_false_iff.mpr c26
    subst c26
    have H1 : ((impl_Yarn_yarns.f kj3 a1_0 a1_1 a1_2 a1_3 a0_0 a0_1 l0_2 1).bind fun t376 => ((impl_short.f kj3 t376 l2).bind fun t379 => (some (t379, true)))) = some (r1, r2) := by rw [if_neg (show ¬ (false = true) by decide)] at H; exact H
    clear H
    have H := H1
    clear H1
    replace H := Option.bind_eq_some_iff.mp H
    obtain ⟨t376, A270, H⟩ := H
    replace H : ((impl_short.f kj3 t376 l2).bind fun t379 => (some (t379, true))) = some (r1, r2) := H
    have A27 := Aside0.mk A270
    clear A270
    replace H := Option.bind_eq_some_iff.mp H
    obtain ⟨t379, A280, H⟩ := H
    replace H : (some (t379, true)) = some (r1, r2) := H
    have A28 := Aside0.mk A280
    clear A280
    simp only [Option.some.injEq, Prod.mk.injEq] at H
    obtain ⟨rfl, rfl⟩ := H
    have hnb29 := NB372_371.out
    have hnc29 := NB371_372.out
    obtain ⟨hcz30_0, hcz30_1, hcz30_2, hcz30_3⟩ := bz4 BK372
    obtain ⟨hfz30_0, hfz30_1, hfz30_2, hfz30_3⟩ := fz4 BK372
    obtain ⟨hcz31_0, hcz31_1, hcz31_2⟩ := bz3 BK371
    obtain ⟨hfz31_0, hfz31_1, hfz31_2⟩ := fz3 BK371
    go_wp2_with (first | ((with_reducible refine gate_callee (f := 52) rfl ?_); refine glE (some 23) Try.func52 #[.agg #[.int .i64 a1_0, .int .i64 a1_1, .int .i64 a1_2, .int .i64 a1_3], .agg #[.int .i64 a0_0, .int .i64 a0_1, .slice A0_2 l0_2.length c0_2], .int .i64 1] ?_; (with_reducible refine (impl_Yarn_yarns.calls kj3 a1_0 a1_1 a1_2 a1_3 a0_0 a0_1 _ _ l0_2 1 t376 _ ?side1 ?side2 A27.out).mono ?_); (case side1 => exact Z12); (case side2 => exact HC0_2.out); rintro e w32 ⟨v377, rfl, ho0, hb⟩; refine ⟨_, rfl, ?_⟩; have HO378 := Aside0.mk (Kd.R_lower ho0 (below_size Z35)); replace BK371 := bkB BK371 hb; replace BK372 := bkB BK372 hb; replace HB := hbS Z35 hb; (try clear hb); (try clear ho0); obtain ⟨Ao33, co33, eo33⟩ := Kd.R_slice HO378.out; subst eo33) | ((with_reducible refine gate_callee (f := 56) rfl ?_); refine glE (some 25) Try.func56 #[.slice Ao33 t376.length co33, .slice A2 l2.length c2] ?_; (with_reducible refine (impl_short.calls kj3 _ _ t376 _ _ l2 t379 _ ?side1 ?side2 ?side3 ?side4 A28.out).mono ?_); (case side1 => exact (by repeat (first | exact (Kd.R_reads' HO378.out).2.2 | (with_reducible refine Kd.C_alloc ?_ _) | (with_reducible refine Kd.C_drewN ?_ _) | (with_reducible refine Kd.C_drew ?_)))); (case side2 => exact (Kd.R_reads' HO378.out).2.1); (case side3 => exact Z45); (case side4 => exact HC2.out); rintro e w34 ⟨v380, rfl, ho0, hb⟩; refine ⟨_, rfl, ?_⟩; have HO381 := Aside0.mk (Kd.R_lower (Kd.R_new' ho0 (Kd.R_lt Z165)) (below_size Z35)); replace HO378 := Aside0.mk (Kd.R_elder' Z165 (Kd.R_base ho0) hb); replace BK371 := bkB BK371 hb; replace BK372 := bkB BK372 hb; replace HB := hbS Z35 hb; (try clear hb); (try clear ho0)))
    go_ret2
    exact ⟨_, Z11, by (with_reducible repeat (first | apply Kd.R_alloc | apply Kd.R_drewN | apply Kd.R_drew)); exact Kd.R_mono HO381.out (fun _ hk => trivial), Z35⟩
end Go.Proofs.Ytnkecgldapagcaa.H
