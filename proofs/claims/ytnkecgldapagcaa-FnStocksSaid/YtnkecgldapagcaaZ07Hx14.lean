-- by wip/pack.py of this repo
import Derived.Test.YtnkecgldapagcaaZ07Hx0
import Derived.Test.YtnkecgldapagcaaZ07Hx2
import Derived.Test.YtnkecgldapagcaaZ07Hx3
import Derived.Test.YtnkecgldapagcaaZ07Hx11
import Derived.Test.YtnkecgldapagcaaZ07WLast
import Derived.Test.YtnkecgldapagcaaZ07WMore
import Derived.Test.YtnkecgldapagcaaZ07WTab
import Derived.Test.YtnkecgldapagcaaZ07WWords
import Derived.Test.YtnkecgldapagcaaZ07Short
namespace Go.Proofs.Ytnkecgldapagcaa.H
open Go.RowKit Go.Proofs.YtnkecgldapagcaaW.PrintWords Go.Proofs.YtnkecgldapagcaaW.PrintLast Go.Proofs.YtnkecgldapagcaaW.PrintMore
attribute [local go_sem] max2_int min2_int max_two min_two max_three min_three max_four min_four
set_option maxHeartbeats 8000000
set_option maxRecDepth 100000
set_option linter.unusedVariables false
set_option linter.unusedSimpArgs false
mutual
def spec_CarpetsFrom.j0 : Nat → List Int → Bool → Int → Int → List Int → Int → Int → Int → Int → Option (Int × Bool)
 | 0, _, _, _, _, _, _, _, _, _ => none
 | k + 1, x2, x23, x456000, x456001, x456002, x457000, x457001, x457002, x457003 => if x23 = true then (some (0, false)) else ((spec_l10Counts.f k x456000 x456001 x456002).bind fun t460 => (spec_CarpetsFrom.l0 k x2 t460 1 x457000 x457001 x457002 x457003))
def spec_CarpetsFrom.l0 : Nat → List Int → List Int → Int → Int → Int → Int → Int → Option (Int × Bool)
 | 0, _, _, _, _, _, _, _ => none
 | k + 1, x2, x8, x9, x457000, x457001, x457002, x457003 => if x9 ≤ 1000 then (spec_CarpetsFrom.l1 k x2 x8 x9 0 x457000 x457001 x457002 x457003) else (some (1000, true))
def spec_CarpetsFrom.l1 : Nat → List Int → List Int → Int → Int → Int → Int → Int → Int → Option (Int × Bool)
 | 0, _, _, _, _, _, _, _, _ => none
 | k + 1, x2, x8, x9, x10, x457000, x457001, x457002, x457003 => if x10 < (x8.length : Int) then (if 0 ≤ x10 then ((spec_l10For.f x457000 x457001 x457002 x457003 (wrap64 (x9 * (rd x8 x10)))).bind fun t464 => (if x10 < (x2.length : Int) then (if t464 > (rd x2 x10) then (some (wrap64 (x9 - 1), true)) else (spec_CarpetsFrom.l1 k x2 x8 x9 (wrap64 (x10 + 1)) x457000 x457001 x457002 x457003)) else (none))) else (none)) else (spec_CarpetsFrom.l0 k x2 x8 (wrap64 (x9 + 1)) x457000 x457001 x457002 x457003)
end
def spec_CarpetsFrom.f (k : Nat) (a0_0 : Int) (a0_1 : Int) (l0_2 : List Int) (a1_0 : Int) (a1_1 : Int) (a1_2 : Int) (a1_3 : Int) (l2 : List Int) : Option (Int × Bool) := (spec_l2Good.f k a0_0 a0_1 l0_2).bind fun t457 => (if t457 = true then ((spec_l10Good.f a1_0 a1_1 a1_2 a1_3).bind fun t458 => (if t458 = true then ((spec_l10Stock.f k l2).bind fun t459 => (spec_CarpetsFrom.j0 k l2 (!t459) a0_0 a0_1 l0_2 a1_0 a1_1 a1_2 a1_3)) else (spec_CarpetsFrom.j0 k l2 true a0_0 a0_1 l0_2 a1_0 a1_1 a1_2 a1_3))) else (spec_CarpetsFrom.j0 k l2 true a0_0 a0_1 l0_2 a1_0 a1_1 a1_2 a1_3))
def spec_CarpetsFrom.T10 : Bool × List (List Nat × List Nat) := (true, [([], []), ([], []), ([], []), ([], []), ([2, 3], [2, 3]), ([4], [4]), ([1, 5], [1, 5]), ([0, 6], [0, 6]), ([], []), ([], []), ([8, 9], [8, 9]), ([10], [10]), ([7, 11], [7, 11])])
def spec_CarpetsFrom.B10 : List Nat := [0, 0, 0, 0, 12, 28, 62, 127, 0, 0, 768, 1792, 4095]
theorem spec_CarpetsFrom.tab10 : rtab .any (opsOf Try.f26 10) = spec_CarpetsFrom.T10 := by kernel_rfl
theorem spec_CarpetsFrom.bits10 : waitsOk spec_CarpetsFrom.T10.2 spec_CarpetsFrom.B10 = true := by kernel_rfl
theorem spec_CarpetsFrom.calls (k : Nat) (a0_0 : Int) (a0_1 : Int) (A0_2 : Option Addr) (c0_2 : Nat) (l0_2 : List Int) (a1_0 : Int) (a1_1 : Int) (a1_2 : Int) (a1_3 : Int) (A2 : Option Addr) (c2 : Nat) (l2 : List Int) (r1 : Int) (r2 : Bool) (w : World) (hr0_2 : Kd.C (Kd.int .i64) w A0_2 l0_2.length l0_2) (hc0_2 : l0_2.length ≤ c0_2) (hr2 : Kd.C (Kd.int .i64) w A2 l2.length l2) (hc2 : l2.length ≤ c2) (h : spec_CarpetsFrom.f k a0_0 a0_1 l0_2 a1_0 a1_1 a1_2 a1_3 l2 = some (r1, r2)) :
  Calls Try.prog 26 #[.agg #[.int .i64 a0_0, .int .i64 a0_1, .slice A0_2 l0_2.length c0_2], .agg #[.int .i64 a1_0, .int .i64 a1_1, .int .i64 a1_2, .int .i64 a1_3], .slice A2 l2.length c2] w fun e w' => e = .returned (.tuple #[.int .i64 r1, .bool r2]) ∧ Below w.heap.size w w' := by
 have hu30 := Try.underlying30
 have hu32 := Try.underlying32
 have HR0_2 := Aside0.mk hr0_2
 have HC0_2 := Aside0.mk hc0_2
 clear hr0_2 hc0_2
 have HR2 := Aside0.mk hr2
 have HC2 := Aside0.mk hc2
 clear hr2 hc2
 have HB := Aside0.mk (Below.refl w.heap.size w)
 have H : ((spec_l2Good.f k a0_0 a0_1 l0_2).bind fun t457 => (if t457 = true then ((spec_l10Good.f a1_0 a1_1 a1_2 a1_3).bind fun t458 => (if t458 = true then ((spec_l10Stock.f k l2).bind fun t459 => (spec_CarpetsFrom.j0 k l2 (!t459) a0_0 a0_1 l0_2 a1_0 a1_1 a1_2 a1_3)) else (spec_CarpetsFrom.j0 k l2 true a0_0 a0_1 l0_2 a1_0 a1_1 a1_2 a1_3))) else (spec_CarpetsFrom.j0 k l2 true a0_0 a0_1 l0_2 a1_0 a1_1 a1_2 a1_3))) = some (r1, r2) := h
 clear h
 have HC4 := Aside0.mk H
 clear H
 go_enter Try.func26, Try.ntmps26
 go_upto_region 1 with (first | ((with_reducible refine gate_dst (N := 3) rfl ?_); refine bxE 3 #[.int .i64 a0_0, .int .i64 a0_1, .slice A0_2 l0_2.length c0_2] 30 ?_; intro gb455 hg w5 hbox hb; have BK455 := Aside0.mk (hbox); have GW455 := gwS hg Z1; have GE455 := gwS hg Z1; replace HB := hbS Z1 hb; clear hb hbox hg) | ((with_reducible refine gate_dst (N := 4) rfl ?_); refine bxE 4 #[.int .i64 a1_0, .int .i64 a1_1, .int .i64 a1_2, .int .i64 a1_3] 32 ?_; intro gb456 hg w6 hbox hb; have BK456 := Aside0.mk (hbox); have GW456 := gwS hg Z112; have GE456 := gwS hg Z112; replace HB := hbS Z112 hb; have NB455_456 := nbL hg BK455; have NB456_455 := nbG hg BK455; replace BK455 := bkB BK455 hb; clear hb hbox hg))
 (try simp only [Act.put, List.setIfInBounds_toArray, List.set_cons_zero, List.set_cons_succ])
 go_cut [23] (fun v23 wc => ∃ (kq : Nat) (x23_3 : Bool), v23 = .bool x23_3 ∧ Aside0 (spec_CarpetsFrom.j0 kq l2 x23_3 a0_0 a0_1 l0_2 a1_0 a1_1 a1_2 a1_3 = some (r1, r2)) ∧ Aside0 (kq ≤ k) ∧ Aside0 (wc.heap[gb455]? = some (.cells #[.int .i64 a0_0, .int .i64 a0_1, (.slice A0_2 l0_2.length c0_2)] 30 (0, 0))) ∧ Aside0 (wc.heap[gb456]? = some (.cells #[.int .i64 a1_0, .int .i64 a1_1, .int .i64 a1_2, .int .i64 a1_3] 32 (0, 0))) ∧ Aside0 (Below w.heap.size w wc))
 case first =>
  have H := HC4.out
  clear HC4
  replace H := Option.bind_eq_some_iff.mp H
  obtain ⟨t457, A70, H⟩ := H
  replace H : (if t457 = true then ((spec_l10Good.f a1_0 a1_1 a1_2 a1_3).bind fun t458 => (if t458 = true then ((spec_l10Stock.f k l2).bind fun t459 => (spec_CarpetsFrom.j0 k l2 (!t459) a0_0 a0_1 l0_2 a1_0 a1_1 a1_2 a1_3)) else (spec_CarpetsFrom.j0 k l2 true a0_0 a0_1 l0_2 a1_0 a1_1 a1_2 a1_3))) else (spec_CarpetsFrom.j0 k l2 true a0_0 a0_1 l0_2 a1_0 a1_1 a1_2 a1_3)) = some (r1, r2) := H
  have A7 := Aside0.mk A70
  clear A70
  by_cases c8 : t457 = true
  ·subst c8
   have H1 : ((spec_l10Good.f a1_0 a1_1 a1_2 a1_3).bind fun t458 => (if t458 = true then ((spec_l10Stock.f k l2).bind fun t459 => (spec_CarpetsFrom.j0 k l2 (!t459) a0_0 a0_1 l0_2 a1_0 a1_1 a1_2 a1_3)) else (spec_CarpetsFrom.j0 k l2 true a0_0 a0_1 l0_2 a1_0 a1_1 a1_2 a1_3))) = some (r1, r2) := by rw [if_pos rfl] at H; exact H
   clear H
   have H := H1
   clear H1
   replace H := Option.bind_eq_some_iff.mp H
   obtain ⟨t458, A90, H⟩ := H
   replace H : (if t458 = true then ((spec_l10Stock.f k l2).bind fun t459 => (spec_CarpetsFrom.j0 k l2 (!t459) a0_0 a0_1 l0_2 a1_0 a1_1 a1_2 a1_3)) else (spec_CarpetsFrom.j0 k l2 true a0_0 a0_1 l0_2 a1_0 a1_1 a1_2 a1_3)) = some (r1, r2) := H
   have A9 := Aside0.mk A90
   clear A90
   by_cases c10 : t458 = true
   ·subst c10
    have H1 : ((spec_l10Stock.f k l2).bind fun t459 => (spec_CarpetsFrom.j0 k l2 (!t459) a0_0 a0_1 l0_2 a1_0 a1_1 a1_2 a1_3)) = some (r1, r2) := by rw [if_pos rfl] at H; exact H
    clear H
    have H := H1
    clear H1
    replace H := Option.bind_eq_some_iff.mp H
    obtain ⟨t459, A110, H⟩ := H
    replace H : (spec_CarpetsFrom.j0 k l2 (!t459) a0_0 a0_1 l0_2 a1_0 a1_1 a1_2 a1_3) = some (r1, r2) := H
    have A11 := Aside0.mk A110
    clear A110
    have H' := Aside0.mk H
    clear H
    have hnb12 := NB455_456.out
    have hnc12 := NB456_455.out
    obtain ⟨hcz13_0, hcz13_1, hcz13_2⟩ := bz3 BK455
    obtain ⟨hfz13_0, hfz13_1, hfz13_2⟩ := fz3 BK455
    go_wp2_with (first | ((with_reducible refine gate_callee (f := 47) rfl ?_); refine glE (some 12) Try.func47 #[.agg #[.int .i64 a0_0, .int .i64 a0_1, .slice A0_2 l0_2.length c0_2]] ?_; (with_reducible refine (spec_l2Good.calls k a0_0 a0_1 _ _ l0_2 true _ ?side1 ?side2 A7.out).mono ?_); (case side1 => exact Z12); (case side2 => exact HC0_2.out); rintro e w14 ⟨rfl, hb⟩; refine ⟨_, rfl, ?_⟩; replace BK455 := bkB BK455 hb; replace BK456 := bkB BK456 hb; replace HB := hbS Z30 hb; (try clear hb); obtain ⟨hcz15_0, hcz15_1, hcz15_2, hcz15_3⟩ := bz4 BK456; obtain ⟨hfz15_0, hfz15_1, hfz15_2, hfz15_3⟩ := fz4 BK456) | (go_at_call 48; (with_reducible refine (spec_l10Good.calls a1_0 a1_1 a1_2 a1_3 true _ A9.out).mono ?_); rintro e w16 ⟨rfl, hb⟩; replace BK455 := bkB BK455 hb; replace BK456 := bkB BK456 hb; replace HB := hbS Z30 hb; (try clear hb)) | (go_at_call 54; (with_reducible refine (spec_l10Stock.calls k _ _ l2 t459 _ ?side1 ?side2 A11.out).mono ?_); (case side1 => exact Z45); (case side2 => exact HC2.out); rintro e w' ⟨rfl, ⟨nd, rfl⟩⟩))
    go_meet
    case rel => exact ⟨_, (!t459), Z20, H', ⟨Z91⟩, ⟨Z81⟩, ⟨Z82⟩, ⟨Z30⟩⟩
   ·replace c10 := Bool.eq_false_iff.mpr c10
    subst c10
    have H1 : (spec_CarpetsFrom.j0 k l2 true a0_0 a0_1 l0_2 a1_0 a1_1 a1_2 a1_3) = some (r1, r2) := by rw [if_neg (show ¬ (false = true) by decide)] at H; exact H
    clear H
    have H := H1
    clear H1
    have H' := Aside0.mk H
    clear H
    have hnb17 := NB455_456.out
    have hnc17 := NB456_455.out
    obtain ⟨hcz18_0, hcz18_1, hcz18_2⟩ := bz3 BK455
    obtain ⟨hfz18_0, hfz18_1, hfz18_2⟩ := fz3 BK455
    go_wp2_with (first | ((with_reducible refine gate_callee (f := 47) rfl ?_); refine glE (some 12) Try.func47 #[.agg #[.int .i64 a0_0, .int .i64 a0_1, .slice A0_2 l0_2.length c0_2]] ?_; (with_reducible refine (spec_l2Good.calls k a0_0 a0_1 _ _ l0_2 true _ ?side1 ?side2 A7.out).mono ?_); (case side1 => exact Z12); (case side2 => exact HC0_2.out); rintro e w19 ⟨rfl, hb⟩; refine ⟨_, rfl, ?_⟩; replace BK455 := bkB BK455 hb; replace BK456 := bkB BK456 hb; replace HB := hbS Z30 hb; (try clear hb); obtain ⟨hcz20_0, hcz20_1, hcz20_2, hcz20_3⟩ := bz4 BK456; obtain ⟨hfz20_0, hfz20_1, hfz20_2, hfz20_3⟩ := fz4 BK456) | (go_at_call 48; (with_reducible refine (spec_l10Good.calls a1_0 a1_1 a1_2 a1_3 false _ A9.out).mono ?_); rintro e w21 ⟨rfl, hb⟩; replace BK455 := bkB BK455 hb; replace BK456 := bkB BK456 hb; replace HB := hbS Z30 hb; (try clear hb)))
    go_meet
    case rel => exact ⟨_, (true), Z20, H', ⟨Z91⟩, ⟨Z81⟩, ⟨Z82⟩, ⟨Z30⟩⟩
  ·replace c8 := Bool.eq_false_iff.mpr c8
   subst c8
   have H1 : (spec_CarpetsFrom.j0 k l2 true a0_0 a0_1 l0_2 a1_0 a1_1 a1_2 a1_3) = some (r1, r2) := by rw [if_neg (show ¬ (false = true) by decide)] at H; exact H
   clear H
   have H := H1
   clear H1
   have H' := Aside0.mk H
   clear H
   have hnb22 := NB455_456.out
   have hnc22 := NB456_455.out
   obtain ⟨hcz23_0, hcz23_1, hcz23_2⟩ := bz3 BK455
   obtain ⟨hfz23_0, hfz23_1, hfz23_2⟩ := fz3 BK455
   go_wp2_with (first | ((with_reducible refine gate_callee (f := 47) rfl ?_); refine glE (some 12) Try.func47 #[.agg #[.int .i64 a0_0, .int .i64 a0_1, .slice A0_2 l0_2.length c0_2]] ?_; (with_reducible refine (spec_l2Good.calls k a0_0 a0_1 _ _ l0_2 false _ ?side1 ?side2 A7.out).mono ?_); (case side1 => exact Z12); (case side2 => exact HC0_2.out); rintro e w24 ⟨rfl, hb⟩; refine ⟨_, rfl, ?_⟩; replace BK455 := bkB BK455 hb; replace BK456 := bkB BK456 hb; replace HB := hbS Z30 hb; (try clear hb)))
   go_meet
   case rel => exact ⟨_, (true), Z20, H', ⟨Z91⟩, ⟨Z81⟩, ⟨Z82⟩, ⟨Z30⟩⟩
 case rest =>
  clear HC4
  try clear c1
  try clear c2
  try clear p2
  try clear c4
  try clear c8
  try clear c10
  try clear c12
  try clear c17
  try clear c22
  try clear hcz13_0
  try clear hcz13_1
  try clear hcz13_2
  try clear hcz15_0
  try clear hcz15_1
  try clear hcz15_2
  try clear hcz15_3
  try clear hcz18_0
  try clear hcz18_1
  try clear hcz18_2
  try clear hcz20_0
  try clear hcz20_1
  try clear hcz20_2
  try clear hcz20_3
  try clear hcz23_0
  try clear hcz23_1
  try clear hcz23_2
  try clear hfz13_0
  try clear hfz13_1
  try clear hfz13_2
  try clear hfz15_0
  try clear hfz15_1
  try clear hfz15_2
  try clear hfz15_3
  try clear hfz18_0
  try clear hfz18_1
  try clear hfz18_2
  try clear hfz20_0
  try clear hfz20_1
  try clear hfz20_2
  try clear hfz20_3
  try clear hfz23_0
  try clear hfz23_1
  try clear hfz23_2
  obtain ⟨kq, x23_3, rfl, HA, HJ3, BK455, BK456, HB⟩ := hcut
  cases kq with
  | zero => exact absurd HA.out (by simp [spec_CarpetsFrom.j0])
  | succ kj3 =>
   have H := HA.out
   clear HA
   simp only [spec_CarpetsFrom.j0] at H
   by_cases c25 : x23_3 = true
   ·subst c25
    have H1 : (some (0, false)) = some (r1, r2) := by rw [if_pos rfl] at H; exact H
    clear H
    have H := H1
    clear H1
    simp only [Option.some.injEq, Prod.mk.injEq] at H
    obtain ⟨rfl, rfl⟩ := H
    go_wp2
    go_ret2
    exact ⟨Z11, Z30⟩
   ·replace c25 := Bool.eq_false_iff.mpr c25
    subst c25
    have H1 : ((spec_l10Counts.f kj3 a0_0 a0_1 l0_2).bind fun t460 => (spec_CarpetsFrom.l0 kj3 l2 t460 1 a1_0 a1_1 a1_2 a1_3)) = some (r1, r2) := by rw [if_neg (show ¬ (false = true) by decide)] at H; exact H
    clear H
    have H := H1
    clear H1
    replace H := Option.bind_eq_some_iff.mp H
    obtain ⟨t460, A260, H⟩ := H
    replace H : (spec_CarpetsFrom.l0 kj3 l2 t460 1 a1_0 a1_1 a1_2 a1_3) = some (r1, r2) := H
    have A26 := Aside0.mk A260
    clear A260
    have H' := Aside0.mk H
    clear H
    have hnb27 := NB455_456.out
    have hnc27 := NB456_455.out
    obtain ⟨hcz28_0, hcz28_1, hcz28_2⟩ := bz3 BK455
    obtain ⟨hfz28_0, hfz28_1, hfz28_2⟩ := fz3 BK455
    go_wp2_with (first | ((with_reducible refine gate_callee (f := 49) rfl ?_); refine glE (some 25) Try.func49 #[.agg #[.int .i64 a0_0, .int .i64 a0_1, .slice A0_2 l0_2.length c0_2]] ?_; (with_reducible refine (spec_l10Counts.calls kj3 a0_0 a0_1 _ _ l0_2 t460 _ ?side1 ?side2 A26.out).mono ?_); (case side1 => exact Z12); (case side2 => exact HC0_2.out); rintro e w29 ⟨v461, rfl, ho0, hb⟩; refine ⟨_, rfl, ?_⟩; have HO462 := Aside0.mk (Kd.R_lower ho0 (below_size Z30)); replace BK455 := bkB BK455 hb; replace BK456 := bkB BK456 hb; replace HB := hbS Z30 hb; (try clear hb); (try clear ho0)))
    go_loopg [9] kj3 (fun kq v9 w' => ∃ (x9_2 : Int), v9 = .int .i64 x9_2 ∧ Aside0 (spec_CarpetsFrom.l0 kq l2 t460 x9_2 a1_0 a1_1 a1_2 a1_3 = some (r1, r2)) ∧ Aside0 (kq ≤ kj3) ∧ Aside0 (Kd.R (Kd.int .i64) 3 w' w.heap.size (fun _ => True) v461 t460) ∧ Aside0 (w'.heap[gb455]? = some (.cells #[.int .i64 a0_0, .int .i64 a0_1, (.slice A0_2 l0_2.length c0_2)] 30 (0, 0))) ∧ Aside0 (w'.heap[gb456]? = some (.cells #[.int .i64 a1_0, .int .i64 a1_1, .int .i64 a1_2, .int .i64 a1_3] 32 (0, 0))) ∧ Aside0 (Below w.heap.size w w'))
    case atStart => exact ⟨(1), Z20, H', ⟨Nat.le_refl _⟩, ⟨by (with_reducible repeat (first | apply Kd.R_alloc | apply Kd.R_drewN | apply Kd.R_drew)); exact HO462.out⟩, ⟨Z81⟩, ⟨Z82⟩, ⟨Z30⟩⟩
    case round =>
     clear H'
     try clear c1
     try clear c2
     try clear p2
     try clear c4
     try clear c8
     try clear c10
     try clear c12
     try clear c17
     try clear c22
     try clear c25
     try clear c26
     try clear c27
     try clear hcz13_0
     try clear hcz13_1
     try clear hcz13_2
     try clear hcz15_0
     try clear hcz15_1
     try clear hcz15_2
     try clear hcz15_3
     try clear hcz18_0
     try clear hcz18_1
     try clear hcz18_2
     try clear hcz20_0
     try clear hcz20_1
     try clear hcz20_2
     try clear hcz20_3
     try clear hcz23_0
     try clear hcz23_1
     try clear hcz23_2
     try clear hcz28_0
     try clear hcz28_1
     try clear hcz28_2
     try clear hfz13_0
     try clear hfz13_1
     try clear hfz13_2
     try clear hfz15_0
     try clear hfz15_1
     try clear hfz15_2
     try clear hfz15_3
     try clear hfz18_0
     try clear hfz18_1
     try clear hfz18_2
     try clear hfz20_0
     try clear hfz20_1
     try clear hfz20_2
     try clear hfz20_3
     try clear hfz23_0
     try clear hfz23_1
     try clear hfz23_2
     try clear hfz28_0
     try clear hfz28_1
     try clear hfz28_2
     try clear p2
     obtain ⟨x9_2, rfl, HA, HK2, HO_8, BK455, BK456, HB⟩ := hrel
     cases gk with
     | zero => exact absurd HA.out (by simp [spec_CarpetsFrom.l0])
     | succ k2 =>
      have H := HA.out
      clear HA
      simp only [spec_CarpetsFrom.l0] at H
      by_cases c30 : x9_2 ≤ 1000
      ·rw [if_pos c30] at H
       have c30b0 : decide (x9_2 ≤ 1000) = true := decide_eq_true c30
       clear c30
       have H' := Aside0.mk H
       clear H
       go_wp2
       go_loopg [10] k2 (fun kq v10 w' => ∃ (x10_3 : Int), v10 = .int .i64 x10_3 ∧ Aside0 (spec_CarpetsFrom.l1 kq l2 t460 x9_2 x10_3 a1_0 a1_1 a1_2 a1_3 = some (r1, r2)) ∧ Aside0 (kq ≤ k2) ∧ Aside0 (Kd.R (Kd.int .i64) 3 w' w.heap.size (fun _ => True) v461 t460) ∧ Aside0 (w'.heap[gb455]? = some (.cells #[.int .i64 a0_0, .int .i64 a0_1, (.slice A0_2 l0_2.length c0_2)] 30 (0, 0))) ∧ Aside0 (w'.heap[gb456]? = some (.cells #[.int .i64 a1_0, .int .i64 a1_1, .int .i64 a1_2, .int .i64 a1_3] 32 (0, 0))) ∧ Aside0 (Below w.heap.size w w'))
       case atStart => exact ⟨(0), Z20, H', ⟨Nat.le_refl _⟩, ⟨Z78⟩, ⟨Z81⟩, ⟨Z82⟩, ⟨Z30⟩⟩
       case round =>
        clear H'
        try clear c1
        try clear c2
        try clear p2
        try clear c3
        try clear c4
        try clear c8
        try clear c10
        try clear c12
        try clear c17
        try clear c22
        try clear c25
        try clear c26
        try clear c27
        try clear c30
        try clear c30b0
        try clear hcz13_0
        try clear hcz13_1
        try clear hcz13_2
        try clear hcz15_0
        try clear hcz15_1
        try clear hcz15_2
        try clear hcz15_3
        try clear hcz18_0
        try clear hcz18_1
        try clear hcz18_2
        try clear hcz20_0
        try clear hcz20_1
        try clear hcz20_2
        try clear hcz20_3
        try clear hcz23_0
        try clear hcz23_1
        try clear hcz23_2
        try clear hcz28_0
        try clear hcz28_1
        try clear hcz28_2
        try clear hfz13_0
        try clear hfz13_1
        try clear hfz13_2
        try clear hfz15_0
        try clear hfz15_1
        try clear hfz15_2
        try clear hfz15_3
        try clear hfz18_0
        try clear hfz18_1
        try clear hfz18_2
        try clear hfz20_0
        try clear hfz20_1
        try clear hfz20_2
        try clear hfz20_3
        try clear hfz23_0
        try clear hfz23_1
        try clear hfz23_2
        try clear hfz28_0
        try clear hfz28_1
        try clear hfz28_2
        try clear p2
        obtain ⟨x10_3, rfl, HA, HK3, HO_8, BK455, BK456, HB⟩ := hrel
        cases gk with
        | zero => exact absurd HA.out (by simp [spec_CarpetsFrom.l1])
        | succ k3 =>
         have H := HA.out
         clear HA
         simp only [spec_CarpetsFrom.l1] at H
         by_cases c31 : x10_3 < (t460.length : Int)
         ·rw [if_pos c31] at H
          have c31b0 : decide (x10_3 < (t460.length : Int)) = true := decide_eq_true c31
          clear c31
          by_cases c32 : 0 ≤ x10_3
          ·rw [if_pos c32] at H
           have c32b0 : decide (0 ≤ x10_3) = true := decide_eq_true c32
           clear c32
           replace H := Option.bind_eq_some_iff.mp H
           obtain ⟨t464, A330, H⟩ := H
           replace H : (if x10_3 < (l2.length : Int) then (if t464 > (rd l2 x10_3) then (some (wrap64 (x9_2 - 1), true)) else (spec_CarpetsFrom.l1 k3 l2 t460 x9_2 (wrap64 (x10_3 + 1)) a1_0 a1_1 a1_2 a1_3)) else (none)) = some (r1, r2) := H
           have A33 := Aside0.mk A330
           clear A330
           by_cases c34 : x10_3 < (l2.length : Int)
           ·rw [if_pos c34] at H
            have c34b0 : decide (x10_3 < (l2.length : Int)) = true := decide_eq_true c34
            clear c34
            by_cases c35 : t464 > (rd l2 x10_3)
            ·rw [if_pos c35] at H
             have c35b0 : decide ((rd l2 x10_3) < t464) = true := decide_eq_true c35
             clear c35
             simp only [Option.some.injEq, Prod.mk.injEq] at H
             obtain ⟨rfl, rfl⟩ := H
             obtain ⟨Ao36, co36, eo36⟩ := Kd.R_slice HO_8.out
             subst eo36
             try go_wp2
             replace HO_8 := Aside0.mk (Kd.R_drew HO_8.out); replace BK455 := Aside0.mk (blk_drew BK455.out); replace BK456 := Aside0.mk (blk_drew BK456.out); replace HB := Aside0.mk (below_drew1 HB.out)
             have p463 : 0 ≤ (x10_3 : Int) := of_decide_eq_true Z19
             have q463 : x10_3 < (t460.length : Int) := of_decide_eq_true Z19
             obtain ⟨ad463, e463, hx463_0⟩ := Kd.at_int (Kd.R_reads' HO_8.out).2.2 x10_3 p463 q463
             cases e463
             replace p463 := eq_true p463
             replace q463 := eq_true q463
             have p465 : 0 ≤ (x10_3 : Int) := of_decide_eq_true Z19
             have q465 : x10_3 < (l2.length : Int) := of_decide_eq_true Z19
             obtain ⟨ad465, e465, hx465_0⟩ := Kd.at_int HR2.out x10_3 p465 q465
             have hw465_0 := hx465_0
             cases e465
             replace hx465_0 := (HB.out.cell (World.block_lt_of_cell? w _ hx465_0)).trans hx465_0
             replace p465 := eq_true p465
             replace q465 := eq_true q465
             refine start_ (n := 13) (S := fun w' => w'.cell? ⟨gb456, 0, none⟩ = some (.int .i64 a1_0) ∧ w'.cell? ⟨gb456, 1, none⟩ = some (.int .i64 a1_1) ∧ w'.cell? ⟨gb456, 2, none⟩ = some (.int .i64 a1_2) ∧ w'.cell? ⟨gb456, 3, none⟩ = some (.int .i64 a1_3) ∧ w'.cell? (ad463.add (x10_3).toNat) = some (.int .i64 (rd t460 x10_3)) ∧ w'.cell? (ad465.add (x10_3).toNat) = some (.int .i64 (rd l2 x10_3))) (ds := []) #[false, false, false, false, false, false, false, false, false, false, false, false, false] Z58 rfl rfl ⟨(blk_cell BK456.out 0).trans rfl, (blk_cell BK456.out 1).trans rfl, (blk_cell BK456.out 2).trans rfl, (blk_cell BK456.out 3).trans rfl, hx463_0, ((HB.out.cell (World.block_lt_of_cell? w _ hw465_0)).trans hw465_0)⟩ (fun hHeld => ?_); refine with_tabW spec_CarpetsFrom.tab10 spec_CarpetsFrom.bits10 (fun HT_ HW_ => ?_)
             generalize wr.drew = w37 at HO_8 BK455 BK456 HB hx463_0 hx465_0 hHeld ⊢
             refine pure_ (i := 1) (N := some 37) (v := ?_) (a' := ?_) #[false, true, false, false, false, false, false, false, false, false, false, false, false] rfl rfl (any_of HT_.out Z58) (fun _ _ _ h => h) (Or.inl ⟨by rfl, ?_⟩) ?_ ?_
             rotate_left
             ·intro w'
              go_simp
              with_reducible rfl
             rotate_left
             ·simp only [Act.put, List.setIfInBounds_toArray, List.set_cons_zero, List.set_cons_succ, i64_w, i32_w]
              rfl
             refine pure_ (i := 2) (N := some 38) (v := ?_) (a' := ?_) #[false, true, true, false, false, false, false, false, false, false, false, false, false] rfl rfl (any_of HT_.out Z58) (fun _ _ _ h => h) (Or.inl ⟨by rfl, ?_⟩) ?_ ?_
             rotate_left
             ·intro w'
              go_simp
              with_reducible rfl
             rotate_left
             ·simp only [Act.put, List.setIfInBounds_toArray, List.set_cons_zero, List.set_cons_succ, i64_w, i32_w]
              rfl
             refine pure_ (i := 3) (N := some 39) (v := ?_) (a' := ?_) #[false, true, true, true, false, false, false, false, false, false, false, false, false] rfl rfl (any_of HT_.out Z58) (fun _ _ _ h => h) (Or.inl ⟨by rfl, ?_⟩) ?_ ?_
             rotate_left
             ·intro w'
              go_simp
              with_reducible rfl
             rotate_left
             ·simp only [Act.put, List.setIfInBounds_toArray, List.set_cons_zero, List.set_cons_succ, i64_w, i32_w]
              rfl
             refine pure_ (i := 4) (N := some 40) (v := ?_) (a' := ?_) #[false, true, true, true, true, false, false, false, false, false, false, false, false] rfl rfl (any_of HT_.out Z58) (fun _ _ _ h => h) (Or.inl ⟨by rfl, ?_⟩) ?_ ?_
             rotate_left
             ·intro w'
              go_simp
              with_reducible rfl
             rotate_left
             ·simp only [Act.put, List.setIfInBounds_toArray, List.set_cons_zero, List.set_cons_succ, i64_w, i32_w]
              rfl
             refine pure_ (i := 8) (N := some 44) (v := ?_) (a' := ?_) #[false, true, true, true, true, false, false, false, true, false, false, false, false] rfl rfl (any_of HT_.out Z58) (fun _ _ _ h => h) (Or.inl ⟨by rfl, ?_⟩) ?_ ?_
             rotate_left
             ·intro w'
              go_simp
              with_reducible rfl
             rotate_left
             ·simp only [Act.put, List.setIfInBounds_toArray, List.set_cons_zero, List.set_cons_succ, i64_w, i32_w]
              rfl
             refine pure_ (i := 9) (N := some 45) (v := ?_) (a' := ?_) #[false, true, true, true, true, false, false, false, true, true, false, false, false] rfl rfl (any_of HT_.out Z58) (fun _ _ _ h => h) (Or.inl ⟨by rfl, ?_⟩) ?_ ?_
             rotate_left
             ·intro w'
              go_simp
              with_reducible rfl
             rotate_left
             ·simp only [Act.put, List.setIfInBounds_toArray, List.set_cons_zero, List.set_cons_succ, i64_w, i32_w]
              rfl
             refine pure_ (i := 10) (N := some 46) (v := ?_) (a' := ?_) #[false, true, true, true, true, false, false, false, true, true, true, false, false] rfl rfl (any_of HT_.out Z58) (fun _ _ _ h => h) (Or.inl ⟨by rfl, ?_⟩) ?_ ?_
             rotate_left
             ·intro w'
              go_simp
              with_reducible rfl
             rotate_left
             ·simp only [Act.put, List.setIfInBounds_toArray, List.set_cons_zero, List.set_cons_succ, i64_w, i32_w]
              rfl
             refine take_ (i := 0) (N := some 36) (v := ?_) (a' := ?_) #[true, true, true, true, true, false, false, false, true, true, true, false, false] rfl rfl (take_ofW HT_.out HW_.out Z58) (fun _ _ _ h => h) (Or.inl ⟨by rfl, ?_⟩) hHeld ?_ ?_
             rotate_left
             ·rintro w' ⟨s0, s1, s2, s3, s4, s5⟩
              go_simp
              with_reducible rfl
             rotate_left
             ·simp only [Act.put, List.setIfInBounds_toArray, List.set_cons_zero, List.set_cons_succ, i64_w, i32_w]
              rfl
             refine take_ (i := 5) (N := some 41) (v := ?_) (a' := ?_) #[true, true, true, true, true, true, false, false, true, true, true, false, false] rfl rfl (take_ofW HT_.out HW_.out Z58) (fun _ _ _ h => h) (Or.inl ⟨by rfl, ?_⟩) hHeld ?_ ?_
             rotate_left
             ·rintro w' ⟨s0, s1, s2, s3, s4, s5⟩
              go_simp
              with_reducible rfl
             rotate_left
             ·simp only [Act.put, List.setIfInBounds_toArray, List.set_cons_zero, List.set_cons_succ, i64_w, i32_w]
              rfl
             refine pure_ (i := 6) (N := some 42) (v := ?_) (a' := ?_) #[true, true, true, true, true, true, true, false, true, true, true, false, false] rfl rfl (any_of HT_.out Z58) (fun _ _ _ h => h) (Or.inl ⟨by rfl, ?_⟩) ?_ ?_
             rotate_left
             ·intro w'
              go_simp
              with_reducible rfl
             rotate_left
             ·simp only [Act.put, List.setIfInBounds_toArray, List.set_cons_zero, List.set_cons_succ, i64_w, i32_w]
              rfl
             refine take_ (i := 11) (N := some 47) (v := ?_) (a' := ?_) #[true, true, true, true, true, true, true, false, true, true, true, true, false] rfl rfl (take_ofW HT_.out HW_.out Z58) (fun _ _ _ h => h) (Or.inl ⟨by rfl, ?_⟩) hHeld ?_ ?_
             rotate_left
             ·rintro w' ⟨s0, s1, s2, s3, s4, s5⟩
              go_simp
              with_reducible rfl
             rotate_left
             ·simp only [Act.put, List.setIfInBounds_toArray, List.set_cons_zero, List.set_cons_succ, i64_w, i32_w]
              rfl
             refine one_ (i := 7) (N := some 43) #[true, true, true, true, true, true, true, true, true, true, true, true, false] rfl rfl (one_of HT_.out Z58) (by decide) (fun K hK => ?_)
             refine goes_ Try.func50 Z58 rfl #[.agg #[.int .i64 a1_0, .int .i64 a1_1, .int .i64 a1_2, .int .i64 a1_3], .int .i64 (wrap64 (x9_2 * (rd t460 x10_3)))] (by rfl) rfl rfl Z52 ?_
             with_reducible refine (spec_l10For.calls a1_0 a1_1 a1_2 a1_3 (wrap64 (x9_2 * (rd t460 x10_3))) t464 _ A33.out).mono ?_
             rintro e w38 ⟨rfl, hb⟩
             have HS4_ := (hb.cell (World.block_lt_of_cell? _ _ (hHeld.2.2.2.2.1))).trans (hHeld.2.2.2.2.1)
             refine ⟨_, rfl, ?_⟩
             replace HO_8 := roB HO_8 hb; replace BK455 := bkB BK455 hb; replace BK456 := bkB BK456 hb; replace HB := hbS Z30 hb
             (try clear hb)
             (try clear hb2)
             (try clear hk)
             (try clear hi)
             refine hK.out _ _ ⟨(blk_cell BK456.out 0).trans rfl, (blk_cell BK456.out 1).trans rfl, (blk_cell BK456.out 2).trans rfl, (blk_cell BK456.out 3).trans rfl, HS4_, ((HB.out.cell (World.block_lt_of_cell? w _ hw465_0)).trans hw465_0)⟩ (fun hHeld => ?_)
             clear hK K
             refine noR 43 ?_
             refine pure_ (i := 12) (N := some 48) (v := ?_) (a' := ?_) #[true, true, true, true, true, true, true, true, true, true, true, true, true] rfl rfl (any_of HT_.out Z58) (fun _ _ _ h => h) (Or.inl ⟨by rfl, ?_⟩) ?_ ?_
             rotate_left
             ·intro w'
              go_simp
              with_reducible rfl
             rotate_left
             ·simp only [Act.put, List.setIfInBounds_toArray, List.set_cons_zero, List.set_cons_succ, i64_w, i32_w]
              rfl
             refine done_ (done_of HT_.out Z58) ?_
             try go_wp2
             go_ret2
             exact ⟨Z11, Z30⟩
            ·rw [if_neg c35] at H
             have c35b0 : decide ((rd l2 x10_3) < t464) = false := decide_eq_false c35
             clear c35
             have H' := Aside0.mk H
             clear H
             obtain ⟨Ao39, co39, eo39⟩ := Kd.R_slice HO_8.out
             subst eo39
             try go_wp2
             replace HO_8 := Aside0.mk (Kd.R_drew HO_8.out); replace BK455 := Aside0.mk (blk_drew BK455.out); replace BK456 := Aside0.mk (blk_drew BK456.out); replace HB := Aside0.mk (below_drew1 HB.out)
             have p463 : 0 ≤ (x10_3 : Int) := of_decide_eq_true Z19
             have q463 : x10_3 < (t460.length : Int) := of_decide_eq_true Z19
             obtain ⟨ad463, e463, hx463_0⟩ := Kd.at_int (Kd.R_reads' HO_8.out).2.2 x10_3 p463 q463
             cases e463
             replace p463 := eq_true p463
             replace q463 := eq_true q463
             have p465 : 0 ≤ (x10_3 : Int) := of_decide_eq_true Z19
             have q465 : x10_3 < (l2.length : Int) := of_decide_eq_true Z19
             obtain ⟨ad465, e465, hx465_0⟩ := Kd.at_int HR2.out x10_3 p465 q465
             have hw465_0 := hx465_0
             cases e465
             replace hx465_0 := (HB.out.cell (World.block_lt_of_cell? w _ hx465_0)).trans hx465_0
             replace p465 := eq_true p465
             replace q465 := eq_true q465
             refine start_ (n := 13) (S := fun w' => w'.cell? ⟨gb456, 0, none⟩ = some (.int .i64 a1_0) ∧ w'.cell? ⟨gb456, 1, none⟩ = some (.int .i64 a1_1) ∧ w'.cell? ⟨gb456, 2, none⟩ = some (.int .i64 a1_2) ∧ w'.cell? ⟨gb456, 3, none⟩ = some (.int .i64 a1_3) ∧ w'.cell? (ad463.add (x10_3).toNat) = some (.int .i64 (rd t460 x10_3)) ∧ w'.cell? (ad465.add (x10_3).toNat) = some (.int .i64 (rd l2 x10_3))) (ds := []) #[false, false, false, false, false, false, false, false, false, false, false, false, false] Z58 rfl rfl ⟨(blk_cell BK456.out 0).trans rfl, (blk_cell BK456.out 1).trans rfl, (blk_cell BK456.out 2).trans rfl, (blk_cell BK456.out 3).trans rfl, hx463_0, ((HB.out.cell (World.block_lt_of_cell? w _ hw465_0)).trans hw465_0)⟩ (fun hHeld => ?_); refine with_tabW spec_CarpetsFrom.tab10 spec_CarpetsFrom.bits10 (fun HT_ HW_ => ?_)
             generalize wr.drew = w40 at HO_8 BK455 BK456 HB hx463_0 hx465_0 hHeld ⊢
             refine pure_ (i := 1) (N := some 37) (v := ?_) (a' := ?_) #[false, true, false, false, false, false, false, false, false, false, false, false, false] rfl rfl (any_of HT_.out Z58) (fun _ _ _ h => h) (Or.inl ⟨by rfl, ?_⟩) ?_ ?_
             rotate_left
             ·intro w'
              go_simp
              with_reducible rfl
             rotate_left
             ·simp only [Act.put, List.setIfInBounds_toArray, List.set_cons_zero, List.set_cons_succ, i64_w, i32_w]
              rfl
             refine pure_ (i := 2) (N := some 38) (v := ?_) (a' := ?_) #[false, true, true, false, false, false, false, false, false, false, false, false, false] rfl rfl (any_of HT_.out Z58) (fun _ _ _ h => h) (Or.inl ⟨by rfl, ?_⟩) ?_ ?_
             rotate_left
             ·intro w'
              go_simp
              with_reducible rfl
             rotate_left
             ·simp only [Act.put, List.setIfInBounds_toArray, List.set_cons_zero, List.set_cons_succ, i64_w, i32_w]
              rfl
             refine pure_ (i := 3) (N := some 39) (v := ?_) (a' := ?_) #[false, true, true, true, false, false, false, false, false, false, false, false, false] rfl rfl (any_of HT_.out Z58) (fun _ _ _ h => h) (Or.inl ⟨by rfl, ?_⟩) ?_ ?_
             rotate_left
             ·intro w'
              go_simp
              with_reducible rfl
             rotate_left
             ·simp only [Act.put, List.setIfInBounds_toArray, List.set_cons_zero, List.set_cons_succ, i64_w, i32_w]
              rfl
             refine pure_ (i := 4) (N := some 40) (v := ?_) (a' := ?_) #[false, true, true, true, true, false, false, false, false, false, false, false, false] rfl rfl (any_of HT_.out Z58) (fun _ _ _ h => h) (Or.inl ⟨by rfl, ?_⟩) ?_ ?_
             rotate_left
             ·intro w'
              go_simp
              with_reducible rfl
             rotate_left
             ·simp only [Act.put, List.setIfInBounds_toArray, List.set_cons_zero, List.set_cons_succ, i64_w, i32_w]
              rfl
             refine pure_ (i := 8) (N := some 44) (v := ?_) (a' := ?_) #[false, true, true, true, true, false, false, false, true, false, false, false, false] rfl rfl (any_of HT_.out Z58) (fun _ _ _ h => h) (Or.inl ⟨by rfl, ?_⟩) ?_ ?_
             rotate_left
             ·intro w'
              go_simp
              with_reducible rfl
             rotate_left
             ·simp only [Act.put, List.setIfInBounds_toArray, List.set_cons_zero, List.set_cons_succ, i64_w, i32_w]
              rfl
             refine pure_ (i := 9) (N := some 45) (v := ?_) (a' := ?_) #[false, true, true, true, true, false, false, false, true, true, false, false, false] rfl rfl (any_of HT_.out Z58) (fun _ _ _ h => h) (Or.inl ⟨by rfl, ?_⟩) ?_ ?_
             rotate_left
             ·intro w'
              go_simp
              with_reducible rfl
             rotate_left
             ·simp only [Act.put, List.setIfInBounds_toArray, List.set_cons_zero, List.set_cons_succ, i64_w, i32_w]
              rfl
             refine pure_ (i := 10) (N := some 46) (v := ?_) (a' := ?_) #[false, true, true, true, true, false, false, false, true, true, true, false, false] rfl rfl (any_of HT_.out Z58) (fun _ _ _ h => h) (Or.inl ⟨by rfl, ?_⟩) ?_ ?_
             rotate_left
             ·intro w'
              go_simp
              with_reducible rfl
             rotate_left
             ·simp only [Act.put, List.setIfInBounds_toArray, List.set_cons_zero, List.set_cons_succ, i64_w, i32_w]
              rfl
             refine take_ (i := 0) (N := some 36) (v := ?_) (a' := ?_) #[true, true, true, true, true, false, false, false, true, true, true, false, false] rfl rfl (take_ofW HT_.out HW_.out Z58) (fun _ _ _ h => h) (Or.inl ⟨by rfl, ?_⟩) hHeld ?_ ?_
             rotate_left
             ·rintro w' ⟨s0, s1, s2, s3, s4, s5⟩
              go_simp
              with_reducible rfl
             rotate_left
             ·simp only [Act.put, List.setIfInBounds_toArray, List.set_cons_zero, List.set_cons_succ, i64_w, i32_w]
              rfl
             refine take_ (i := 5) (N := some 41) (v := ?_) (a' := ?_) #[true, true, true, true, true, true, false, false, true, true, true, false, false] rfl rfl (take_ofW HT_.out HW_.out Z58) (fun _ _ _ h => h) (Or.inl ⟨by rfl, ?_⟩) hHeld ?_ ?_
             rotate_left
             ·rintro w' ⟨s0, s1, s2, s3, s4, s5⟩
              go_simp
              with_reducible rfl
             rotate_left
             ·simp only [Act.put, List.setIfInBounds_toArray, List.set_cons_zero, List.set_cons_succ, i64_w, i32_w]
              rfl
             refine pure_ (i := 6) (N := some 42) (v := ?_) (a' := ?_) #[true, true, true, true, true, true, true, false, true, true, true, false, false] rfl rfl (any_of HT_.out Z58) (fun _ _ _ h => h) (Or.inl ⟨by rfl, ?_⟩) ?_ ?_
             rotate_left
             ·intro w'
              go_simp
              with_reducible rfl
             rotate_left
             ·simp only [Act.put, List.setIfInBounds_toArray, List.set_cons_zero, List.set_cons_succ, i64_w, i32_w]
              rfl
             refine take_ (i := 11) (N := some 47) (v := ?_) (a' := ?_) #[true, true, true, true, true, true, true, false, true, true, true, true, false] rfl rfl (take_ofW HT_.out HW_.out Z58) (fun _ _ _ h => h) (Or.inl ⟨by rfl, ?_⟩) hHeld ?_ ?_
             rotate_left
             ·rintro w' ⟨s0, s1, s2, s3, s4, s5⟩
              go_simp
              with_reducible rfl
             rotate_left
             ·simp only [Act.put, List.setIfInBounds_toArray, List.set_cons_zero, List.set_cons_succ, i64_w, i32_w]
              rfl
             refine one_ (i := 7) (N := some 43) #[true, true, true, true, true, true, true, true, true, true, true, true, false] rfl rfl (one_of HT_.out Z58) (by decide) (fun K hK => ?_)
             refine goes_ Try.func50 Z58 rfl #[.agg #[.int .i64 a1_0, .int .i64 a1_1, .int .i64 a1_2, .int .i64 a1_3], .int .i64 (wrap64 (x9_2 * (rd t460 x10_3)))] (by rfl) rfl rfl Z52 ?_
             with_reducible refine (spec_l10For.calls a1_0 a1_1 a1_2 a1_3 (wrap64 (x9_2 * (rd t460 x10_3))) t464 _ A33.out).mono ?_
             rintro e w41 ⟨rfl, hb⟩
             have HS4_ := (hb.cell (World.block_lt_of_cell? _ _ (hHeld.2.2.2.2.1))).trans (hHeld.2.2.2.2.1)
             refine ⟨_, rfl, ?_⟩
             replace HO_8 := roB HO_8 hb; replace BK455 := bkB BK455 hb; replace BK456 := bkB BK456 hb; replace HB := hbS Z30 hb
             (try clear hb)
             (try clear hb2)
             (try clear hk)
             (try clear hi)
             refine hK.out _ _ ⟨(blk_cell BK456.out 0).trans rfl, (blk_cell BK456.out 1).trans rfl, (blk_cell BK456.out 2).trans rfl, (blk_cell BK456.out 3).trans rfl, HS4_, ((HB.out.cell (World.block_lt_of_cell? w _ hw465_0)).trans hw465_0)⟩ (fun hHeld => ?_)
             clear hK K
             refine noR 43 ?_
             refine pure_ (i := 12) (N := some 48) (v := ?_) (a' := ?_) #[true, true, true, true, true, true, true, true, true, true, true, true, true] rfl rfl (any_of HT_.out Z58) (fun _ _ _ h => h) (Or.inl ⟨by rfl, ?_⟩) ?_ ?_
             rotate_left
             ·intro w'
              go_simp
              with_reducible rfl
             rotate_left
             ·simp only [Act.put, List.setIfInBounds_toArray, List.set_cons_zero, List.set_cons_succ, i64_w, i32_w]
              rfl
             refine done_ (done_of HT_.out Z58) ?_
             try go_wp2
             go_roundg k3
             case measure => have := HJ3.out; have := HK2.out; have := HK3.out; omega
             case rel => exact ⟨(wrap64 (x10_3 + 1)), Z20, H', ⟨Z173⟩, ⟨Z78⟩, ⟨Z81⟩, ⟨Z82⟩, ⟨Z30⟩⟩
           ·rw [if_neg c34] at H
            exact absurd H (by simp)
          ·rw [if_neg c32] at H
           exact absurd H (by simp)
         ·rw [if_neg c31] at H
          have c31b0 : decide (x10_3 < (t460.length : Int)) = false := decide_eq_false c31
          clear c31
          have H' := Aside0.mk H
          clear H
          obtain ⟨Ao42, co42, eo42⟩ := Kd.R_slice HO_8.out
          subst eo42
          go_wp2
          go_roundg k3
          case measure => have := HJ3.out; have := HK2.out; have := HK3.out; omega
          case rel => exact ⟨(wrap64 (x9_2 + 1)), Z20, H', ⟨Z173⟩, ⟨Z78⟩, ⟨Z81⟩, ⟨Z82⟩, ⟨Z30⟩⟩
      ·rw [if_neg c30] at H
       have c30b0 : decide (x9_2 ≤ 1000) = false := decide_eq_false c30
       clear c30
       simp only [Option.some.injEq, Prod.mk.injEq] at H
       obtain ⟨rfl, rfl⟩ := H
       go_wp2
       go_ret2
       exact ⟨Z11, Z30⟩
mutual
def impl_CarpetsFrom.j0 : Nat → List Int → Bool → Int → Int → List Int → Int → Int → Int → Int → Option (Int × Bool)
 | 0, _, _, _, _, _, _, _, _, _ => none
 | k + 1, x2, x21, x467000, x467001, x467002, x468000, x468001, x468002, x468003 => if x21 = true then (some (0, false)) else (impl_CarpetsFrom.l0 k x2 1000 x467000 x467001 x467002 x468000 x468001 x468002 x468003)
def impl_CarpetsFrom.l0 : Nat → List Int → Int → Int → Int → List Int → Int → Int → Int → Int → Option (Int × Bool)
 | 0, _, _, _, _, _, _, _, _, _ => none
 | k + 1, x2, x8, x467000, x467001, x467002, x468000, x468001, x468002, x468003 => (impl_Yarn_yarns.f k x468000 x468001 x468002 x468003 x467000 x467001 x467002 x8).bind fun t471 => ((impl_short.f k t471 x2).bind fun t474 => (if (t474.length : Int) > 0 then (impl_CarpetsFrom.l0 k x2 (wrap64 (x8 - 1)) x467000 x467001 x467002 x468000 x468001 x468002 x468003) else (some (x8, true))))
end
def impl_CarpetsFrom.f (k : Nat) (a0_0 : Int) (a0_1 : Int) (l0_2 : List Int) (a1_0 : Int) (a1_1 : Int) (a1_2 : Int) (a1_3 : Int) (l2 : List Int) : Option (Int × Bool) := (impl_IsChart.f a0_0 a0_1 l0_2).bind fun t468 => (if t468 = true then ((impl_IsYarn.f a1_0 a1_1 a1_2 a1_3).bind fun t469 => (if t469 = true then ((impl_isYarnStock.f l2).bind fun t470 => (impl_CarpetsFrom.j0 k l2 (!t470) a0_0 a0_1 l0_2 a1_0 a1_1 a1_2 a1_3)) else (impl_CarpetsFrom.j0 k l2 true a0_0 a0_1 l0_2 a1_0 a1_1 a1_2 a1_3))) else (impl_CarpetsFrom.j0 k l2 true a0_0 a0_1 l0_2 a1_0 a1_1 a1_2 a1_3))
theorem impl_CarpetsFrom.calls (k : Nat) (a0_0 : Int) (a0_1 : Int) (A0_2 : Option Addr) (c0_2 : Nat) (l0_2 : List Int) (a1_0 : Int) (a1_1 : Int) (a1_2 : Int) (a1_3 : Int) (A2 : Option Addr) (c2 : Nat) (l2 : List Int) (r1 : Int) (r2 : Bool) (w : World) (hr0_2 : Kd.C (Kd.int .i64) w A0_2 l0_2.length l0_2) (hc0_2 : l0_2.length ≤ c0_2) (hr2 : Kd.C (Kd.int .i64) w A2 l2.length l2) (hc2 : l2.length ≤ c2) (h : impl_CarpetsFrom.f k a0_0 a0_1 l0_2 a1_0 a1_1 a1_2 a1_3 l2 = some (r1, r2)) :
  Calls Try.prog 27 #[.agg #[.int .i64 a0_0, .int .i64 a0_1, .slice A0_2 l0_2.length c0_2], .agg #[.int .i64 a1_0, .int .i64 a1_1, .int .i64 a1_2, .int .i64 a1_3], .slice A2 l2.length c2] w fun e w' => e = .returned (.tuple #[.int .i64 r1, .bool r2]) ∧ Below w.heap.size w w' := by
 have hu30 := Try.underlying30
 have hu32 := Try.underlying32
 have HR0_2 := Aside0.mk hr0_2
 have HC0_2 := Aside0.mk hc0_2
 clear hr0_2 hc0_2
 have HR2 := Aside0.mk hr2
 have HC2 := Aside0.mk hc2
 clear hr2 hc2
 have HB := Aside0.mk (Below.refl w.heap.size w)
 have H : ((impl_IsChart.f a0_0 a0_1 l0_2).bind fun t468 => (if t468 = true then ((impl_IsYarn.f a1_0 a1_1 a1_2 a1_3).bind fun t469 => (if t469 = true then ((impl_isYarnStock.f l2).bind fun t470 => (impl_CarpetsFrom.j0 k l2 (!t470) a0_0 a0_1 l0_2 a1_0 a1_1 a1_2 a1_3)) else (impl_CarpetsFrom.j0 k l2 true a0_0 a0_1 l0_2 a1_0 a1_1 a1_2 a1_3))) else (impl_CarpetsFrom.j0 k l2 true a0_0 a0_1 l0_2 a1_0 a1_1 a1_2 a1_3))) = some (r1, r2) := h
 clear h
 have HC4 := Aside0.mk H
 clear H
 go_enter Try.func27, Try.ntmps27
 go_upto_region 1 with (first | ((with_reducible refine gate_dst (N := 3) rfl ?_); refine bxE 3 #[.int .i64 a0_0, .int .i64 a0_1, .slice A0_2 l0_2.length c0_2] 30 ?_; intro gb466 hg w5 hbox hb; have BK466 := Aside0.mk (hbox); have GW466 := gwS hg Z1; have GE466 := gwS hg Z1; replace HB := hbS Z1 hb; clear hb hbox hg) | ((with_reducible refine gate_dst (N := 4) rfl ?_); refine bxE 4 #[.int .i64 a1_0, .int .i64 a1_1, .int .i64 a1_2, .int .i64 a1_3] 32 ?_; intro gb467 hg w6 hbox hb; have BK467 := Aside0.mk (hbox); have GW467 := gwS hg Z113; have GE467 := gwS hg Z113; replace HB := hbS Z113 hb; have NB466_467 := nbL hg BK466; have NB467_466 := nbG hg BK466; replace BK466 := bkB BK466 hb; clear hb hbox hg))
 (try simp only [Act.put, List.setIfInBounds_toArray, List.set_cons_zero, List.set_cons_succ])
 go_cut [21] (fun v21 wc => ∃ (kq : Nat) (x21_3 : Bool), v21 = .bool x21_3 ∧ Aside0 (impl_CarpetsFrom.j0 kq l2 x21_3 a0_0 a0_1 l0_2 a1_0 a1_1 a1_2 a1_3 = some (r1, r2)) ∧ Aside0 (kq ≤ k) ∧ Aside0 (wc.heap[gb466]? = some (.cells #[.int .i64 a0_0, .int .i64 a0_1, (.slice A0_2 l0_2.length c0_2)] 30 (0, 0))) ∧ Aside0 (wc.heap[gb467]? = some (.cells #[.int .i64 a1_0, .int .i64 a1_1, .int .i64 a1_2, .int .i64 a1_3] 32 (0, 0))) ∧ Aside0 (Below w.heap.size w wc))
 case first =>
  have H := HC4.out
  clear HC4
  replace H := Option.bind_eq_some_iff.mp H
  obtain ⟨t468, A70, H⟩ := H
  replace H : (if t468 = true then ((impl_IsYarn.f a1_0 a1_1 a1_2 a1_3).bind fun t469 => (if t469 = true then ((impl_isYarnStock.f l2).bind fun t470 => (impl_CarpetsFrom.j0 k l2 (!t470) a0_0 a0_1 l0_2 a1_0 a1_1 a1_2 a1_3)) else (impl_CarpetsFrom.j0 k l2 true a0_0 a0_1 l0_2 a1_0 a1_1 a1_2 a1_3))) else (impl_CarpetsFrom.j0 k l2 true a0_0 a0_1 l0_2 a1_0 a1_1 a1_2 a1_3)) = some (r1, r2) := H
  have A7 := Aside0.mk A70
  clear A70
  by_cases c8 : t468 = true
  ·subst c8
   have H1 : ((impl_IsYarn.f a1_0 a1_1 a1_2 a1_3).bind fun t469 => (if t469 = true then ((impl_isYarnStock.f l2).bind fun t470 => (impl_CarpetsFrom.j0 k l2 (!t470) a0_0 a0_1 l0_2 a1_0 a1_1 a1_2 a1_3)) else (impl_CarpetsFrom.j0 k l2 true a0_0 a0_1 l0_2 a1_0 a1_1 a1_2 a1_3))) = some (r1, r2) := by rw [if_pos rfl] at H; exact H
   clear H
   have H := H1
   clear H1
   replace H := Option.bind_eq_some_iff.mp H
   obtain ⟨t469, A90, H⟩ := H
   replace H : (if t469 = true then ((impl_isYarnStock.f l2).bind fun t470 => (impl_CarpetsFrom.j0 k l2 (!t470) a0_0 a0_1 l0_2 a1_0 a1_1 a1_2 a1_3)) else (impl_CarpetsFrom.j0 k l2 true a0_0 a0_1 l0_2 a1_0 a1_1 a1_2 a1_3)) = some (r1, r2) := H
   have A9 := Aside0.mk A90
   clear A90
   by_cases c10 : t469 = true
   ·subst c10
    have H1 : ((impl_isYarnStock.f l2).bind fun t470 => (impl_CarpetsFrom.j0 k l2 (!t470) a0_0 a0_1 l0_2 a1_0 a1_1 a1_2 a1_3)) = some (r1, r2) := by rw [if_pos rfl] at H; exact H
    clear H
    have H := H1
    clear H1
    replace H := Option.bind_eq_some_iff.mp H
    obtain ⟨t470, A110, H⟩ := H
    replace H : (impl_CarpetsFrom.j0 k l2 (!t470) a0_0 a0_1 l0_2 a1_0 a1_1 a1_2 a1_3) = some (r1, r2) := H
    have A11 := Aside0.mk A110
    clear A110
    have H' := Aside0.mk H
    clear H
    have hnb12 := NB466_467.out
    have hnc12 := NB467_466.out
    obtain ⟨hcz13_0, hcz13_1, hcz13_2⟩ := bz3 BK466
    obtain ⟨hfz13_0, hfz13_1, hfz13_2⟩ := fz3 BK466
    go_wp2_with (first | ((with_reducible refine gate_callee (f := 51) rfl ?_); refine glE (some 10) Try.func51 #[.agg #[.int .i64 a0_0, .int .i64 a0_1, .slice A0_2 l0_2.length c0_2]] ?_; (with_reducible refine (impl_IsChart.calls a0_0 a0_1 _ _ l0_2 true _ ?side1 ?side2 A7.out).mono ?_); (case side1 => exact Z12); (case side2 => exact HC0_2.out); rintro e w14 ⟨rfl, hb⟩; refine ⟨_, rfl, ?_⟩; replace BK466 := bkB BK466 hb; replace BK467 := bkB BK467 hb; replace HB := hbS Z27 hb; (try clear hb); obtain ⟨hcz15_0, hcz15_1, hcz15_2, hcz15_3⟩ := bz4 BK467; obtain ⟨hfz15_0, hfz15_1, hfz15_2, hfz15_3⟩ := fz4 BK467) | (go_at_call 36; (with_reducible refine (impl_IsYarn.calls a1_0 a1_1 a1_2 a1_3 true _ A9.out).mono ?_); rintro e w16 ⟨rfl, hb⟩; replace BK466 := bkB BK466 hb; replace BK467 := bkB BK467 hb; replace HB := hbS Z27 hb; (try clear hb)) | (go_at_call 55; (with_reducible refine (impl_isYarnStock.calls _ _ l2 t470 _ ?side1 ?side2 A11.out).mono ?_); (case side1 => exact Z45); (case side2 => exact HC2.out); rintro e w17 ⟨rfl, hb⟩; replace BK466 := bkB BK466 hb; replace BK467 := bkB BK467 hb; replace HB := hbS Z27 hb; (try clear hb)))
    go_meet
    case rel => exact ⟨_, (!t470), Z20, H', ⟨Z91⟩, ⟨Z101⟩, ⟨Z102⟩, ⟨Z27⟩⟩
   ·replace c10 := Bool.eq_false_iff.mpr c10
    subst c10
    have H1 : (impl_CarpetsFrom.j0 k l2 true a0_0 a0_1 l0_2 a1_0 a1_1 a1_2 a1_3) = some (r1, r2) := by rw [if_neg (show ¬ (false = true) by decide)] at H; exact H
    clear H
    have H := H1
    clear H1
    have H' := Aside0.mk H
    clear H
    have hnb18 := NB466_467.out
    have hnc18 := NB467_466.out
    obtain ⟨hcz19_0, hcz19_1, hcz19_2⟩ := bz3 BK466
    obtain ⟨hfz19_0, hfz19_1, hfz19_2⟩ := fz3 BK466
    go_wp2_with (first | ((with_reducible refine gate_callee (f := 51) rfl ?_); refine glE (some 10) Try.func51 #[.agg #[.int .i64 a0_0, .int .i64 a0_1, .slice A0_2 l0_2.length c0_2]] ?_; (with_reducible refine (impl_IsChart.calls a0_0 a0_1 _ _ l0_2 true _ ?side1 ?side2 A7.out).mono ?_); (case side1 => exact Z12); (case side2 => exact HC0_2.out); rintro e w20 ⟨rfl, hb⟩; refine ⟨_, rfl, ?_⟩; replace BK466 := bkB BK466 hb; replace BK467 := bkB BK467 hb; replace HB := hbS Z27 hb; (try clear hb); obtain ⟨hcz21_0, hcz21_1, hcz21_2, hcz21_3⟩ := bz4 BK467; obtain ⟨hfz21_0, hfz21_1, hfz21_2, hfz21_3⟩ := fz4 BK467) | (go_at_call 36; (with_reducible refine (impl_IsYarn.calls a1_0 a1_1 a1_2 a1_3 false _ A9.out).mono ?_); rintro e w22 ⟨rfl, hb⟩; replace BK466 := bkB BK466 hb; replace BK467 := bkB BK467 hb; replace HB := hbS Z27 hb; (try clear hb)))
    go_meet
    case rel => exact ⟨_, (true), Z20, H', ⟨Z91⟩, ⟨Z101⟩, ⟨Z102⟩, ⟨Z27⟩⟩
  ·replace c8 := Bool.eq_false_iff.mpr c8
   subst c8
   have H1 : (impl_CarpetsFrom.j0 k l2 true a0_0 a0_1 l0_2 a1_0 a1_1 a1_2 a1_3) = some (r1, r2) := by rw [if_neg (show ¬ (false = true) by decide)] at H; exact H
   clear H
   have H := H1
   clear H1
   have H' := Aside0.mk H
   clear H
   have hnb23 := NB466_467.out
   have hnc23 := NB467_466.out
   obtain ⟨hcz24_0, hcz24_1, hcz24_2⟩ := bz3 BK466
   obtain ⟨hfz24_0, hfz24_1, hfz24_2⟩ := fz3 BK466
   go_wp2_with (first | ((with_reducible refine gate_callee (f := 51) rfl ?_); refine glE (some 10) Try.func51 #[.agg #[.int .i64 a0_0, .int .i64 a0_1, .slice A0_2 l0_2.length c0_2]] ?_; (with_reducible refine (impl_IsChart.calls a0_0 a0_1 _ _ l0_2 false _ ?side1 ?side2 A7.out).mono ?_); (case side1 => exact Z12); (case side2 => exact HC0_2.out); rintro e w25 ⟨rfl, hb⟩; refine ⟨_, rfl, ?_⟩; replace BK466 := bkB BK466 hb; replace BK467 := bkB BK467 hb; replace HB := hbS Z27 hb; (try clear hb)))
   go_meet
   case rel => exact ⟨_, (true), Z20, H', ⟨Z91⟩, ⟨Z101⟩, ⟨Z102⟩, ⟨Z27⟩⟩
 case rest =>
  clear HC4
  try clear c1
  try clear c2
  try clear p2
  try clear c5
  try clear c8
  try clear c10
  try clear c12
  try clear c18
  try clear c23
  try clear hcz13_0
  try clear hcz13_1
  try clear hcz13_2
  try clear hcz15_0
  try clear hcz15_1
  try clear hcz15_2
  try clear hcz15_3
  try clear hcz19_0
  try clear hcz19_1
  try clear hcz19_2
  try clear hcz21_0
  try clear hcz21_1
  try clear hcz21_2
  try clear hcz21_3
  try clear hcz24_0
  try clear hcz24_1
  try clear hcz24_2
  try clear hfz13_0
  try clear hfz13_1
  try clear hfz13_2
  try clear hfz15_0
  try clear hfz15_1
  try clear hfz15_2
  try clear hfz15_3
  try clear hfz19_0
  try clear hfz19_1
  try clear hfz19_2
  try clear hfz21_0
  try clear hfz21_1
  try clear hfz21_2
  try clear hfz21_3
  try clear hfz24_0
  try clear hfz24_1
  try clear hfz24_2
  obtain ⟨kq, x21_3, rfl, HA, HJ3, BK466, BK467, HB⟩ := hcut
  cases kq with
  | zero => exact absurd HA.out (by simp [impl_CarpetsFrom.j0])
  | succ kj3 =>
   have H := HA.out
   clear HA
   simp only [impl_CarpetsFrom.j0] at H
   by_cases c26 : x21_3 = true
   ·subst c26
    have H1 : (some (0, false)) = some (r1, r2) := by rw [if_pos rfl] at H; exact H
    clear H
    have H := H1
    clear H1
    simp only [Option.some.injEq, Prod.mk.injEq] at H
    obtain ⟨rfl, rfl⟩ := H
    go_wp2
    go_ret2
    exact ⟨Z11, Z27⟩
   ·replace c26 := Bool.eq_false_iff.mpr c26
    subst c26
    have H1 : (impl_CarpetsFrom.l0 kj3 l2 1000 a0_0 a0_1 l0_2 a1_0 a1_1 a1_2 a1_3) = some (r1, r2) := by rw [if_neg (show ¬ (false = true) by decide)] at H; exact H
    clear H
    have H := H1
    clear H1
    have H' := Aside0.mk H
    clear H
    go_wp2
    go_loopg [8] kj3 (fun kq v8 w' => ∃ (x8_2 : Int), v8 = .int .i64 x8_2 ∧ Aside0 (impl_CarpetsFrom.l0 kq l2 x8_2 a0_0 a0_1 l0_2 a1_0 a1_1 a1_2 a1_3 = some (r1, r2)) ∧ Aside0 (kq ≤ kj3) ∧ Aside0 (w'.heap[gb466]? = some (.cells #[.int .i64 a0_0, .int .i64 a0_1, (.slice A0_2 l0_2.length c0_2)] 30 (0, 0))) ∧ Aside0 (w'.heap[gb467]? = some (.cells #[.int .i64 a1_0, .int .i64 a1_1, .int .i64 a1_2, .int .i64 a1_3] 32 (0, 0))) ∧ Aside0 (Below w.heap.size w w'))
    case atStart => exact ⟨(1000), Z20, H', ⟨Nat.le_refl _⟩, ⟨Z101⟩, ⟨Z102⟩, ⟨Z27⟩⟩
    case round =>
     clear H'
     try clear c1
     try clear c2
     try clear p2
     try clear c5
     try clear c8
     try clear c10
     try clear c12
     try clear c18
     try clear c23
     try clear c26
     try clear hcz13_0
     try clear hcz13_1
     try clear hcz13_2
     try clear hcz15_0
     try clear hcz15_1
     try clear hcz15_2
     try clear hcz15_3
     try clear hcz19_0
     try clear hcz19_1
     try clear hcz19_2
     try clear hcz21_0
     try clear hcz21_1
     try clear hcz21_2
     try clear hcz21_3
     try clear hcz24_0
     try clear hcz24_1
     try clear hcz24_2
     try clear hfz13_0
     try clear hfz13_1
     try clear hfz13_2
     try clear hfz15_0
     try clear hfz15_1
     try clear hfz15_2
     try clear hfz15_3
     try clear hfz19_0
     try clear hfz19_1
     try clear hfz19_2
     try clear hfz21_0
     try clear hfz21_1
     try clear hfz21_2
     try clear hfz21_3
     try clear hfz24_0
     try clear hfz24_1
     try clear hfz24_2
     try clear p2
     obtain ⟨x8_2, rfl, HA, HK2, BK466, BK467, HB⟩ := hrel
     cases gk with
     | zero => exact absurd HA.out (by simp [impl_CarpetsFrom.l0])
     | succ k2 =>
      have H := HA.out
      clear HA
      simp only [impl_CarpetsFrom.l0] at H
      replace H := Option.bind_eq_some_iff.mp H
      obtain ⟨t471, A270, H⟩ := H
      replace H : ((impl_short.f k2 t471 l2).bind fun t474 => (if (t474.length : Int) > 0 then (impl_CarpetsFrom.l0 k2 l2 (wrap64 (x8_2 - 1)) a0_0 a0_1 l0_2 a1_0 a1_1 a1_2 a1_3) else (some (x8_2, true)))) = some (r1, r2) := H
      have A27 := Aside0.mk A270
      clear A270
      replace H := Option.bind_eq_some_iff.mp H
      obtain ⟨t474, A280, H⟩ := H
      replace H : (if (t474.length : Int) > 0 then (impl_CarpetsFrom.l0 k2 l2 (wrap64 (x8_2 - 1)) a0_0 a0_1 l0_2 a1_0 a1_1 a1_2 a1_3) else (some (x8_2, true))) = some (r1, r2) := H
      have A28 := Aside0.mk A280
      clear A280
      by_cases c29 : (t474.length : Int) > 0
      ·rw [if_pos c29] at H
       have c29b0 : decide (0 < (t474.length : Int)) = true := decide_eq_true c29
       have c29b1 : decide (0 < t474.length) = true := decide_eq_true (by omega)
       clear c29
       have H' := Aside0.mk H
       clear H
       have hnb30 := NB467_466.out
       have hnc30 := NB466_467.out
       obtain ⟨hcz31_0, hcz31_1, hcz31_2, hcz31_3⟩ := bz4 BK467
       obtain ⟨hfz31_0, hfz31_1, hfz31_2, hfz31_3⟩ := fz4 BK467
       obtain ⟨hcz32_0, hcz32_1, hcz32_2⟩ := bz3 BK466
       obtain ⟨hfz32_0, hfz32_1, hfz32_2⟩ := fz3 BK466
       go_wp2_with (first | ((with_reducible refine gate_callee (f := 52) rfl ?_); refine glE (some 25) Try.func52 #[.agg #[.int .i64 a1_0, .int .i64 a1_1, .int .i64 a1_2, .int .i64 a1_3], .agg #[.int .i64 a0_0, .int .i64 a0_1, .slice A0_2 l0_2.length c0_2], .int .i64 x8_2] ?_; (with_reducible refine (impl_Yarn_yarns.calls k2 a1_0 a1_1 a1_2 a1_3 a0_0 a0_1 _ _ l0_2 x8_2 t471 _ ?side1 ?side2 A27.out).mono ?_); (case side1 => exact Z12); (case side2 => exact HC0_2.out); rintro e w33 ⟨v472, rfl, ho0, hb⟩; refine ⟨_, rfl, ?_⟩; have HO473 := Aside0.mk (Kd.R_lower ho0 (below_size Z27)); replace BK466 := bkB BK466 hb; replace BK467 := bkB BK467 hb; replace HB := hbS Z27 hb; (try clear hb); (try clear ho0); obtain ⟨Ao34, co34, eo34⟩ := Kd.R_slice HO473.out; subst eo34) | ((with_reducible refine gate_callee (f := 56) rfl ?_); refine glE (some 27) Try.func56 #[.slice Ao34 t471.length co34, .slice A2 l2.length c2] ?_; (with_reducible refine (impl_short.calls k2 _ _ t471 _ _ l2 t474 _ ?side1 ?side2 ?side3 ?side4 A28.out).mono ?_); (case side1 => exact Z137); (case side2 => exact (Kd.R_reads' HO473.out).2.1); (case side3 => exact Z45); (case side4 => exact HC2.out); rintro e w35 ⟨v475, rfl, ho0, hb⟩; refine ⟨_, rfl, ?_⟩; have HO476 := Aside0.mk (Kd.R_lower (Kd.R_new' ho0 (Kd.R_lt Z120)) (below_size Z27)); replace HO473 := Aside0.mk (Kd.R_elder' Z120 (Kd.R_base ho0) hb); replace BK466 := bkB BK466 hb; replace BK467 := bkB BK467 hb; replace HB := hbS Z27 hb; (try clear hb); (try clear ho0); obtain ⟨Ao36, co36, eo36⟩ := Kd.R_slice HO476.out; subst eo36))
       go_roundg k2
       case measure => have := HJ3.out; have := HK2.out; omega
       case rel => exact ⟨(wrap64 (x8_2 - 1)), Z20, H', ⟨by have := HJ3.out; have := HK2.out; omega⟩, ⟨Z101⟩, ⟨Z102⟩, ⟨Z27⟩⟩
      ·rw [if_neg c29] at H
       have c29b0 : decide (0 < (t474.length : Int)) = false := decide_eq_false c29
       have c29b1 : decide (0 < t474.length) = false := decide_eq_false (by omega)
       clear c29
       simp only [Option.some.injEq, Prod.mk.injEq] at H
       obtain ⟨rfl, rfl⟩ := H
       have hnb37 := NB467_466.out
       have hnc37 := NB466_467.out
       obtain ⟨hcz38_0, hcz38_1, hcz38_2, hcz38_3⟩ := bz4 BK467
       obtain ⟨hfz38_0, hfz38_1, hfz38_2, hfz38_3⟩ := fz4 BK467
       obtain ⟨hcz39_0, hcz39_1, hcz39_2⟩ := bz3 BK466
       obtain ⟨hfz39_0, hfz39_1, hfz39_2⟩ := fz3 BK466
       go_wp2_with (first | ((with_reducible refine gate_callee (f := 52) rfl ?_); refine glE (some 25) Try.func52 #[.agg #[.int .i64 a1_0, .int .i64 a1_1, .int .i64 a1_2, .int .i64 a1_3], .agg #[.int .i64 a0_0, .int .i64 a0_1, .slice A0_2 l0_2.length c0_2], .int .i64 x8_2] ?_; (with_reducible refine (impl_Yarn_yarns.calls k2 a1_0 a1_1 a1_2 a1_3 a0_0 a0_1 _ _ l0_2 x8_2 t471 _ ?side1 ?side2 A27.out).mono ?_); (case side1 => exact Z12); (case side2 => exact HC0_2.out); rintro e w40 ⟨v472, rfl, ho0, hb⟩; refine ⟨_, rfl, ?_⟩; have HO473 := Aside0.mk (Kd.R_lower ho0 (below_size Z27)); replace BK466 := bkB BK466 hb; replace BK467 := bkB BK467 hb; replace HB := hbS Z27 hb; (try clear hb); (try clear ho0); obtain ⟨Ao41, co41, eo41⟩ := Kd.R_slice HO473.out; subst eo41) | ((with_reducible refine gate_callee (f := 56) rfl ?_); refine glE (some 27) Try.func56 #[.slice Ao41 t471.length co41, .slice A2 l2.length c2] ?_; (with_reducible refine (impl_short.calls k2 _ _ t471 _ _ l2 t474 _ ?side1 ?side2 ?side3 ?side4 A28.out).mono ?_); (case side1 => exact Z137); (case side2 => exact (Kd.R_reads' HO473.out).2.1); (case side3 => exact Z45); (case side4 => exact HC2.out); rintro e w42 ⟨v475, rfl, ho0, hb⟩; refine ⟨_, rfl, ?_⟩; have HO476 := Aside0.mk (Kd.R_lower (Kd.R_new' ho0 (Kd.R_lt Z120)) (below_size Z27)); replace HO473 := Aside0.mk (Kd.R_elder' Z120 (Kd.R_base ho0) hb); replace BK466 := bkB BK466 hb; replace BK467 := bkB BK467 hb; replace HB := hbS Z27 hb; (try clear hb); (try clear ho0); obtain ⟨Ao43, co43, eo43⟩ := Kd.R_slice HO476.out; subst eo43))
       go_ret2
       exact ⟨Z11, Z27⟩
end Go.Proofs.Ytnkecgldapagcaa.H
