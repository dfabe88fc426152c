-- by wip/pack.py of this repo
import Derived.Test.YtffgmmfkiecheaaZ00Hx0
import Derived.Test.YtffgmmfkiecheaaZ00Hx4
import Derived.Test.YtffgmmfkiecheaaZ00Hx5
import Derived.Test.YtffgmmfkiecheaaZ00Hx6
import Derived.Test.YtffgmmfkiecheaaZ00WApart
import Derived.Test.YtffgmmfkiecheaaZ00WLast
import Derived.Test.YtffgmmfkiecheaaZ00WMore
import Derived.Test.YtffgmmfkiecheaaZ00WN
import Derived.Test.YtffgmmfkiecheaaZ00WTab
import Derived.Test.YtffgmmfkiecheaaZ00WWords
import Derived.Test.YtffgmmfkiecheaaZ00Short
namespace Go.Proofs.Ytffgmmfkiecheaa.H
open Go.RowKit Go.Proofs.YtffgmmfkiecheaaW.PrintWords Go.Proofs.YtffgmmfkiecheaaW.PrintLast Go.Proofs.YtffgmmfkiecheaaW.PrintMore
attribute [local go_sem] max2_int min2_int max_two min_two max_three min_three max_four min_four
set_option maxHeartbeats 8000000
set_option maxRecDepth 100000
set_option linter.unusedVariables false
set_option linter.unusedSimpArgs false
def impl_Rates_wage.f (a0_0 : Int) (a0_1 : Int) (a0_2 : Int) (a0_3 : Int) (a0_4 : Int) (a1_0 : Int) (a1_1 : Int) (a1_2 : Int) (a1_3 : Int) (a1_4 : Int) : Option (Int) := (impl_WorkSheet_right.f a1_0 a1_1 a1_2 a1_3 a1_4).bind fun t225 => ((impl_WorkSheet_right.f a1_0 a1_1 a1_2 a1_3 a1_4).bind fun t226 => (if t226 ≥ 8000 then (some (mx (wrap64 ((wrap64 ((wrap64 ((wrap64 (Int.tdiv (wrap64 (a0_0 * t225)) 1000)) + (wrap64 (a0_1 * a1_4)))) - (wrap64 (a0_4 * (wrap64 (Int.tdiv a1_3 100)))))) + a0_3)) a0_2)) else (some (mx (wrap64 ((wrap64 ((wrap64 (Int.tdiv (wrap64 (a0_0 * t225)) 1000)) + (wrap64 (a0_1 * a1_4)))) - (wrap64 (a0_4 * (wrap64 (Int.tdiv a1_3 100)))))) a0_2))))
def impl_Rates_wage.T1 : Bool × List (List Nat × List Nat) := (true, [([], []), ([0], [0]), ([], []), ([2], [2]), ([1, 3], [1, 3]), ([4], [4]), ([], []), ([6], [6]), ([], []), ([8], [8]), ([7, 9], [7, 9]), ([5, 10], [5, 10]), ([], []), ([12], [12]), ([], []), ([14], [14]), ([15], [15]), ([13, 16], [13, 16]), ([11, 17], [11, 17]), ([18, 3, 0, 1, 2, 3, 4, 5, 6, 7, 8, 9, 10, 11, 12, 13, 14, 15, 16, 17, 18], [18])])
def impl_Rates_wage.B1 : List Nat := [0, 1, 0, 4, 15, 31, 0, 64, 0, 256, 960, 2047, 0, 4096, 0, 16384, 49152, 126976, 262143, 524287]
theorem impl_Rates_wage.tab1 : rtab .any (opsOf Try.f49 1) = impl_Rates_wage.T1 := by kernel_rfl
theorem impl_Rates_wage.bits1 : waitsOk impl_Rates_wage.T1.2 impl_Rates_wage.B1 = true := by kernel_rfl
theorem impl_Rates_wage.calls (a0_0 : Int) (a0_1 : Int) (a0_2 : Int) (a0_3 : Int) (a0_4 : Int) (a1_0 : Int) (a1_1 : Int) (a1_2 : Int) (a1_3 : Int) (a1_4 : Int) (r : Int) (w : World) (h : impl_Rates_wage.f a0_0 a0_1 a0_2 a0_3 a0_4 a1_0 a1_1 a1_2 a1_3 a1_4 = some r) :
  Calls Try.prog 49 #[.agg #[.int .i64 a0_0, .int .i64 a0_1, .int .i64 a0_2, .int .i64 a0_3, .int .i64 a0_4], .agg #[.int .i64 a1_0, .int .i64 a1_1, .int .i64 a1_2, .int .i64 a1_3, .int .i64 a1_4]] w fun e w' => e = .returned (.int .i64 r) ∧ Below w.heap.size w w' := by
 have hu29 := Try.underlying29
 have hu48 := Try.underlying48
 have HB := Aside0.mk (Below.refl w.heap.size w)
 have H : ((impl_WorkSheet_right.f a1_0 a1_1 a1_2 a1_3 a1_4).bind fun t225 => ((impl_WorkSheet_right.f a1_0 a1_1 a1_2 a1_3 a1_4).bind fun t226 => (if t226 ≥ 8000 then (some (mx (wrap64 ((wrap64 ((wrap64 ((wrap64 (Int.tdiv (wrap64 (a0_0 * t225)) 1000)) + (wrap64 (a0_1 * a1_4)))) - (wrap64 (a0_4 * (wrap64 (Int.tdiv a1_3 100)))))) + a0_3)) a0_2)) else (some (mx (wrap64 ((wrap64 ((wrap64 (Int.tdiv (wrap64 (a0_0 * t225)) 1000)) + (wrap64 (a0_1 * a1_4)))) - (wrap64 (a0_4 * (wrap64 (Int.tdiv a1_3 100)))))) a0_2))))) = some r := h
 clear h
 replace H := Option.bind_eq_some_iff.mp H
 obtain ⟨t225, A30, H⟩ := H
 replace H : ((impl_WorkSheet_right.f a1_0 a1_1 a1_2 a1_3 a1_4).bind fun t226 => (if t226 ≥ 8000 then (some (mx (wrap64 ((wrap64 ((wrap64 ((wrap64 (Int.tdiv (wrap64 (a0_0 * t225)) 1000)) + (wrap64 (a0_1 * a1_4)))) - (wrap64 (a0_4 * (wrap64 (Int.tdiv a1_3 100)))))) + a0_3)) a0_2)) else (some (mx (wrap64 ((wrap64 ((wrap64 (Int.tdiv (wrap64 (a0_0 * t225)) 1000)) + (wrap64 (a0_1 * a1_4)))) - (wrap64 (a0_4 * (wrap64 (Int.tdiv a1_3 100)))))) a0_2)))) = some r := H
 have A3 := Aside0.mk A30
 clear A30
 replace H := Option.bind_eq_some_iff.mp H
 obtain ⟨t226, A40, H⟩ := H
 replace H : (if t226 ≥ 8000 then (some (mx (wrap64 ((wrap64 ((wrap64 ((wrap64 (Int.tdiv (wrap64 (a0_0 * t225)) 1000)) + (wrap64 (a0_1 * a1_4)))) - (wrap64 (a0_4 * (wrap64 (Int.tdiv a1_3 100)))))) + a0_3)) a0_2)) else (some (mx (wrap64 ((wrap64 ((wrap64 (Int.tdiv (wrap64 (a0_0 * t225)) 1000)) + (wrap64 (a0_1 * a1_4)))) - (wrap64 (a0_4 * (wrap64 (Int.tdiv a1_3 100)))))) a0_2))) = some r := H
 have A4 := Aside0.mk A40
 clear A40
 by_cases c5 : t226 ≥ 8000
 ·rw [if_pos c5] at H
  have c5b0 : decide (8000 ≤ t226) = true := decide_eq_true c5
  clear c5
  obtain ⟨ji6, hji6⟩ : ∃ j_ : Int, (mx (wrap64 ((wrap64 ((wrap64 ((wrap64 (Int.tdiv (wrap64 (a0_0 * t225)) 1000)) + (wrap64 (a0_1 * a1_4)))) - (wrap64 (a0_4 * (wrap64 (Int.tdiv a1_3 100)))))) + a0_3)) a0_2) = j_ := ⟨_, rfl⟩
  replace H : (some ji6) = some r := by first | (rw [hji6] at H; exact H) | (simp only [hji6] at H ⊢; exact H)
  (try rw [hji6] at A3)
  (try rw [hji6] at A4)
  have hji6_ : (if (wrap64 ((wrap64 ((wrap64 ((wrap64 (Int.tdiv (wrap64 (a0_0 * t225)) 1000)) + (wrap64 (a0_1 * a1_4)))) - (wrap64 (a0_4 * (wrap64 (Int.tdiv a1_3 100)))))) + a0_3)) < a0_2 then a0_2 else (wrap64 ((wrap64 ((wrap64 ((wrap64 (Int.tdiv (wrap64 (a0_0 * t225)) 1000)) + (wrap64 (a0_1 * a1_4)))) - (wrap64 (a0_4 * (wrap64 (Int.tdiv a1_3 100)))))) + a0_3))) = ji6 := hji6
  obtain rfl := Option.some.inj H
  go_enter Try.func49, Try.ntmps49
  try go_wp2_with (first | ((with_reducible refine gate_dst (N := 2) rfl ?_); refine bxE 2 #[.int .i64 a0_0, .int .i64 a0_1, .int .i64 a0_2, .int .i64 a0_3, .int .i64 a0_4] 29 ?_; intro gb223 hg w7 hbox hb; have BK223 := Aside0.mk (hbox); have GW223 := gwS hg Z0; have GE223 := gwS hg Z0; replace HB := hbS Z0 hb; clear hb hbox hg) | ((with_reducible refine gate_dst (N := 3) rfl ?_); refine bxE 3 #[.int .i64 a1_0, .int .i64 a1_1, .int .i64 a1_2, .int .i64 a1_3, .int .i64 a1_4] 48 ?_; intro gb224 hg w8 hbox hb; have BK224 := Aside0.mk (hbox); have GW224 := gwS hg Z22; have GE224 := gwS hg Z22; replace HB := hbS Z22 hb; have NB223_224 := nbL hg BK223; have NB224_223 := nbG hg BK223; replace BK223 := bkB BK223 hb; clear hb hbox hg))
  replace BK223 := Aside0.mk (blk_drew BK223.out); replace BK224 := Aside0.mk (blk_drew BK224.out); replace HB := Aside0.mk (below_drew1 HB.out)
  refine start_ (n := 20) (S := fun w' => w'.cell? ⟨gb223, 0, none⟩ = some (.int .i64 a0_0) ∧ w'.cell? ⟨gb223, 1, none⟩ = some (.int .i64 a0_1) ∧ w'.cell? ⟨gb223, 2, none⟩ = some (.int .i64 a0_2) ∧ w'.cell? ⟨gb223, 3, none⟩ = some (.int .i64 a0_3) ∧ w'.cell? ⟨gb223, 4, none⟩ = some (.int .i64 a0_4) ∧ w'.cell? ⟨gb224, 0, none⟩ = some (.int .i64 a1_0) ∧ w'.cell? ⟨gb224, 1, none⟩ = some (.int .i64 a1_1) ∧ w'.cell? ⟨gb224, 2, none⟩ = some (.int .i64 a1_2) ∧ w'.cell? ⟨gb224, 3, none⟩ = some (.int .i64 a1_3) ∧ w'.cell? ⟨gb224, 4, none⟩ = some (.int .i64 a1_4)) (ds := []) #[false, false, false, false, false, false, false, false, false, false, false, false, false, false, false, false, false, false, false, false] Z5 rfl rfl ⟨(blk_cell BK223.out 0).trans rfl, (blk_cell BK223.out 1).trans rfl, (blk_cell BK223.out 2).trans rfl, (blk_cell BK223.out 3).trans rfl, (blk_cell BK223.out 4).trans rfl, (blk_cell BK224.out 0).trans rfl, (blk_cell BK224.out 1).trans rfl, (blk_cell BK224.out 2).trans rfl, (blk_cell BK224.out 3).trans rfl, (blk_cell BK224.out 4).trans rfl⟩ (fun hHeld => ?_); refine with_tabW impl_Rates_wage.tab1 impl_Rates_wage.bits1 (fun HT_ HW_ => ?_)
  generalize w8.drew = w9 at BK223 BK224 HB hHeld ⊢
  refine pure_ (i := 0) (N := some 6) (v := ?_) (a' := ?_) #[true, false, false, false, false, false, false, false, false, false, false, false, false, false, false, false, false, false, false, false] rfl rfl (any_of HT_.out Z5) (fun _ _ _ h => h) (Or.inl ⟨by rfl, ?_⟩) ?_ ?_
  rotate_left
  ·intro w'
   go_simp
   with_reducible rfl
  rotate_left
  ·simp only [Act.put, List.setIfInBounds_toArray, List.set_cons_zero, List.set_cons_succ, i64_w, i32_w]
   rfl
  refine pure_ (i := 6) (N := some 12) (v := ?_) (a' := ?_) #[true, false, false, false, false, false, true, false, false, false, false, false, false, false, false, false, false, false, false, false] rfl rfl (any_of HT_.out Z5) (fun _ _ _ h => h) (Or.inl ⟨by rfl, ?_⟩) ?_ ?_
  rotate_left
  ·intro w'
   go_simp
   with_reducible rfl
  rotate_left
  ·simp only [Act.put, List.setIfInBounds_toArray, List.set_cons_zero, List.set_cons_succ, i64_w, i32_w]
   rfl
  refine pure_ (i := 8) (N := some 14) (v := ?_) (a' := ?_) #[true, false, false, false, false, false, true, false, true, false, false, false, false, false, false, false, false, false, false, false] rfl rfl (any_of HT_.out Z5) (fun _ _ _ h => h) (Or.inl ⟨by rfl, ?_⟩) ?_ ?_
  rotate_left
  ·intro w'
   go_simp
   with_reducible rfl
  rotate_left
  ·simp only [Act.put, List.setIfInBounds_toArray, List.set_cons_zero, List.set_cons_succ, i64_w, i32_w]
   rfl
  refine pure_ (i := 12) (N := some 18) (v := ?_) (a' := ?_) #[true, false, false, false, false, false, true, false, true, false, false, false, true, false, false, false, false, false, false, false] rfl rfl (any_of HT_.out Z5) (fun _ _ _ h => h) (Or.inl ⟨by rfl, ?_⟩) ?_ ?_
  rotate_left
  ·intro w'
   go_simp
   with_reducible rfl
  rotate_left
  ·simp only [Act.put, List.setIfInBounds_toArray, List.set_cons_zero, List.set_cons_succ, i64_w, i32_w]
   rfl
  refine pure_ (i := 14) (N := some 20) (v := ?_) (a' := ?_) #[true, false, false, false, false, false, true, false, true, false, false, false, true, false, true, false, false, false, false, false] rfl rfl (any_of HT_.out Z5) (fun _ _ _ h => h) (Or.inl ⟨by rfl, ?_⟩) ?_ ?_
  rotate_left
  ·intro w'
   go_simp
   with_reducible rfl
  rotate_left
  ·simp only [Act.put, List.setIfInBounds_toArray, List.set_cons_zero, List.set_cons_succ, i64_w, i32_w]
   rfl
  refine take_ (i := 1) (N := some 7) (v := ?_) (a' := ?_) #[true, true, false, false, false, false, true, false, true, false, false, false, true, false, true, false, false, false, false, false] rfl rfl (take_ofW HT_.out HW_.out Z5) (fun _ _ _ h => h) (Or.inl ⟨by rfl, ?_⟩) hHeld ?_ ?_
  rotate_left
  ·rintro w' ⟨s0, s1, s2, s3, s4, s5, s6, s7, s8, s9⟩
   go_simp
   with_reducible rfl
  rotate_left
  ·simp only [Act.put, List.setIfInBounds_toArray, List.set_cons_zero, List.set_cons_succ, i64_w, i32_w]
   rfl
  refine take_ (i := 2) (N := some 8) (v := ?_) (a' := ?_) #[true, true, true, false, false, false, true, false, true, false, false, false, true, false, true, false, false, false, false, false] rfl rfl (take_ofW HT_.out HW_.out Z5) (fun _ _ _ h => h) (Or.inl ⟨by rfl, ?_⟩) hHeld ?_ ?_
  rotate_left
  ·rintro w' ⟨s0, s1, s2, s3, s4, s5, s6, s7, s8, s9⟩
   go_simp
   with_reducible rfl
  rotate_left
  ·simp only [Act.put, List.setIfInBounds_toArray, List.set_cons_zero, List.set_cons_succ, i64_w, i32_w]
   rfl
  refine take_ (i := 7) (N := some 13) (v := ?_) (a' := ?_) #[true, true, true, false, false, false, true, true, true, false, false, false, true, false, true, false, false, false, false, false] rfl rfl (take_ofW HT_.out HW_.out Z5) (fun _ _ _ h => h) (Or.inl ⟨by rfl, ?_⟩) hHeld ?_ ?_
  rotate_left
  ·rintro w' ⟨s0, s1, s2, s3, s4, s5, s6, s7, s8, s9⟩
   go_simp
   with_reducible rfl
  rotate_left
  ·simp only [Act.put, List.setIfInBounds_toArray, List.set_cons_zero, List.set_cons_succ, i64_w, i32_w]
   rfl
  refine take_ (i := 9) (N := some 15) (v := ?_) (a' := ?_) #[true, true, true, false, false, false, true, true, true, true, false, false, true, false, true, false, false, false, false, false] rfl rfl (take_ofW HT_.out HW_.out Z5) (fun _ _ _ h => h) (Or.inl ⟨by rfl, ?_⟩) hHeld ?_ ?_
  rotate_left
  ·rintro w' ⟨s0, s1, s2, s3, s4, s5, s6, s7, s8, s9⟩
   go_simp
   with_reducible rfl
  rotate_left
  ·simp only [Act.put, List.setIfInBounds_toArray, List.set_cons_zero, List.set_cons_succ, i64_w, i32_w]
   rfl
  refine pure_ (i := 10) (N := some 16) (v := ?_) (a' := ?_) #[true, true, true, false, false, false, true, true, true, true, true, false, true, false, true, false, false, false, false, false] rfl rfl (any_of HT_.out Z5) (fun _ _ _ h => h) (Or.inl ⟨by rfl, ?_⟩) ?_ ?_
  rotate_left
  ·intro w'
   go_simp
   with_reducible rfl
  rotate_left
  ·simp only [Act.put, List.setIfInBounds_toArray, List.set_cons_zero, List.set_cons_succ, i64_w, i32_w]
   rfl
  refine take_ (i := 13) (N := some 19) (v := ?_) (a' := ?_) #[true, true, true, false, false, false, true, true, true, true, true, false, true, true, true, false, false, false, false, false] rfl rfl (take_ofW HT_.out HW_.out Z5) (fun _ _ _ h => h) (Or.inl ⟨by rfl, ?_⟩) hHeld ?_ ?_
  rotate_left
  ·rintro w' ⟨s0, s1, s2, s3, s4, s5, s6, s7, s8, s9⟩
   go_simp
   with_reducible rfl
  rotate_left
  ·simp only [Act.put, List.setIfInBounds_toArray, List.set_cons_zero, List.set_cons_succ, i64_w, i32_w]
   rfl
  refine take_ (i := 15) (N := some 21) (v := ?_) (a' := ?_) #[true, true, true, false, false, false, true, true, true, true, true, false, true, true, true, true, false, false, false, false] rfl rfl (take_ofW HT_.out HW_.out Z5) (fun _ _ _ h => h) (Or.inl ⟨by rfl, ?_⟩) hHeld ?_ ?_
  rotate_left
  ·rintro w' ⟨s0, s1, s2, s3, s4, s5, s6, s7, s8, s9⟩
   go_simp
   with_reducible rfl
  rotate_left
  ·simp only [Act.put, List.setIfInBounds_toArray, List.set_cons_zero, List.set_cons_succ, i64_w, i32_w]
   rfl
  refine pure_ (i := 16) (N := some 22) (v := ?_) (a' := ?_) #[true, true, true, false, false, false, true, true, true, true, true, false, true, true, true, true, true, false, false, false] rfl rfl (any_of HT_.out Z5) (fun _ _ _ h => h) (Or.inl ⟨by rfl, ?_⟩) ?_ ?_
  rotate_left
  ·intro w'
   go_simp
   with_reducible rfl
  rotate_left
  ·simp only [Act.put, List.setIfInBounds_toArray, List.set_cons_zero, List.set_cons_succ, i64_w, i32_w]
   rfl
  refine pure_ (i := 17) (N := some 23) (v := ?_) (a' := ?_) #[true, true, true, false, false, false, true, true, true, true, true, false, true, true, true, true, true, true, false, false] rfl rfl (any_of HT_.out Z5) (fun _ _ _ h => h) (Or.inl ⟨by rfl, ?_⟩) ?_ ?_
  rotate_left
  ·intro w'
   go_simp
   with_reducible rfl
  rotate_left
  ·simp only [Act.put, List.setIfInBounds_toArray, List.set_cons_zero, List.set_cons_succ, i64_w, i32_w]
   rfl
  refine one_ (i := 3) (N := some 9) #[true, true, true, true, false, false, true, true, true, true, true, false, true, true, true, true, true, true, false, false] rfl rfl (one_of HT_.out Z5) (by decide) (fun K hK => ?_)
  refine goes_ Try.func74 Z5 rfl #[.agg #[.int .i64 a1_0, .int .i64 a1_1, .int .i64 a1_2, .int .i64 a1_3, .int .i64 a1_4]] (by rfl) rfl rfl Z13 ?_
  with_reducible refine (impl_WorkSheet_right.calls a1_0 a1_1 a1_2 a1_3 a1_4 t225 _ A3.out).mono ?_
  rintro e w10 ⟨rfl, hb⟩
  refine ⟨_, rfl, ?_⟩
  replace BK223 := bkB BK223 hb; replace BK224 := bkB BK224 hb; replace HB := hbS Z18 hb
  (try clear hb)
  (try clear hb2)
  (try clear hk)
  (try clear hi)
  refine hK.out _ _ ⟨(blk_cell BK223.out 0).trans rfl, (blk_cell BK223.out 1).trans rfl, (blk_cell BK223.out 2).trans rfl, (blk_cell BK223.out 3).trans rfl, (blk_cell BK223.out 4).trans rfl, (blk_cell BK224.out 0).trans rfl, (blk_cell BK224.out 1).trans rfl, (blk_cell BK224.out 2).trans rfl, (blk_cell BK224.out 3).trans rfl, (blk_cell BK224.out 4).trans rfl⟩ (fun hHeld => ?_)
  clear hK K
  refine noR 9 ?_
  refine pure_ (i := 4) (N := some 10) (v := ?_) (a' := ?_) #[true, true, true, true, true, false, true, true, true, true, true, false, true, true, true, true, true, true, false, false] rfl rfl (any_of HT_.out Z5) (fun _ _ _ h => h) (Or.inl ⟨by rfl, ?_⟩) ?_ ?_
  rotate_left
  ·intro w'
   go_simp
   with_reducible rfl
  rotate_left
  ·simp only [Act.put, List.setIfInBounds_toArray, List.set_cons_zero, List.set_cons_succ, i64_w, i32_w]
   rfl
  refine pure_ (i := 5) (N := some 11) (v := ?_) (a' := ?_) #[true, true, true, true, true, true, true, true, true, true, true, false, true, true, true, true, true, true, false, false] rfl rfl (any_of HT_.out Z5) (fun _ _ _ h => h) (Or.inl ⟨by rfl, ?_⟩) ?_ ?_
  rotate_left
  ·intro w'
   go_simp
   with_reducible rfl
  rotate_left
  ·simp only [Act.put, List.setIfInBounds_toArray, List.set_cons_zero, List.set_cons_succ, i64_w, i32_w]
   rfl
  refine pure_ (i := 11) (N := some 17) (v := ?_) (a' := ?_) #[true, true, true, true, true, true, true, true, true, true, true, true, true, true, true, true, true, true, false, false] rfl rfl (any_of HT_.out Z5) (fun _ _ _ h => h) (Or.inl ⟨by rfl, ?_⟩) ?_ ?_
  rotate_left
  ·intro w'
   go_simp
   with_reducible rfl
  rotate_left
  ·simp only [Act.put, List.setIfInBounds_toArray, List.set_cons_zero, List.set_cons_succ, i64_w, i32_w]
   rfl
  refine pure_ (i := 18) (N := some 24) (v := ?_) (a' := ?_) #[true, true, true, true, true, true, true, true, true, true, true, true, true, true, true, true, true, true, true, false] rfl rfl (any_of HT_.out Z5) (fun _ _ _ h => h) (Or.inl ⟨by rfl, ?_⟩) ?_ ?_
  rotate_left
  ·intro w'
   go_simp
   with_reducible rfl
  rotate_left
  ·simp only [Act.put, List.setIfInBounds_toArray, List.set_cons_zero, List.set_cons_succ, i64_w, i32_w]
   rfl
  refine pure_ (i := 19) (N := some 5) (v := ?_) (a' := ?_) #[true, true, true, true, true, true, true, true, true, true, true, true, true, true, true, true, true, true, true, true] rfl rfl (any_of HT_.out Z5) (fun _ _ _ h => h) (Or.inl ⟨by rfl, ?_⟩) ?_ ?_
  rotate_left
  ·intro w'
   go_simp
   with_reducible rfl
  rotate_left
  ·simp only [Act.put, List.setIfInBounds_toArray, List.set_cons_zero, List.set_cons_succ, i64_w, i32_w]
   rfl
  refine done_ (done_of HT_.out Z5) ?_
  have hnb11 := NB224_223.out
  have hnc11 := NB223_224.out
  obtain ⟨hcz12_0, hcz12_1, hcz12_2, hcz12_3, hcz12_4⟩ := bz5 BK224
  obtain ⟨hfz12_0, hfz12_1, hfz12_2, hfz12_3, hfz12_4⟩ := fz5 BK224
  try go_wp2_with (first | ((with_reducible refine gate_callee (f := 74) rfl ?_); refine glE (some 26) Try.func74 #[.agg #[.int .i64 a1_0, .int .i64 a1_1, .int .i64 a1_2, .int .i64 a1_3, .int .i64 a1_4]] ?_; (with_reducible refine (impl_WorkSheet_right.calls a1_0 a1_1 a1_2 a1_3 a1_4 t226 _ A4.out).mono ?_); rintro e w13 ⟨rfl, hb⟩; refine ⟨_, rfl, ?_⟩; replace BK223 := bkB BK223 hb; replace BK224 := bkB BK224 hb; replace HB := hbS Z18 hb; (try clear hb); obtain ⟨hcz14_0, hcz14_1, hcz14_2, hcz14_3, hcz14_4⟩ := bz5 BK223; obtain ⟨hfz14_0, hfz14_1, hfz14_2, hfz14_3, hfz14_4⟩ := fz5 BK223))
  go_ret
  exact ⟨by first | rfl | (simp [errW_none, errW_some] <;> rfl) | (simp only [← hji6]; first | rfl | (simp [errW_none, errW_some] <;> rfl)) | (simp [*, errW_none, errW_some] <;> rfl), Z18⟩
 ·rw [if_neg c5] at H
  have c5b0 : decide (8000 ≤ t226) = false := decide_eq_false c5
  clear c5
  obtain ⟨ji15, hji15⟩ : ∃ j_ : Int, (mx (wrap64 ((wrap64 ((wrap64 (Int.tdiv (wrap64 (a0_0 * t225)) 1000)) + (wrap64 (a0_1 * a1_4)))) - (wrap64 (a0_4 * (wrap64 (Int.tdiv a1_3 100)))))) a0_2) = j_ := ⟨_, rfl⟩
  replace H : (some ji15) = some r := by first | (rw [hji15] at H; exact H) | (simp only [hji15] at H ⊢; exact H)
  (try rw [hji15] at A3)
  (try rw [hji15] at A4)
  have hji15_ : (if (wrap64 ((wrap64 ((wrap64 (Int.tdiv (wrap64 (a0_0 * t225)) 1000)) + (wrap64 (a0_1 * a1_4)))) - (wrap64 (a0_4 * (wrap64 (Int.tdiv a1_3 100)))))) < a0_2 then a0_2 else (wrap64 ((wrap64 ((wrap64 (Int.tdiv (wrap64 (a0_0 * t225)) 1000)) + (wrap64 (a0_1 * a1_4)))) - (wrap64 (a0_4 * (wrap64 (Int.tdiv a1_3 100))))))) = ji15 := hji15
  obtain rfl := Option.some.inj H
  go_enter Try.func49, Try.ntmps49
  try go_wp2_with (first | ((with_reducible refine gate_dst (N := 2) rfl ?_); refine bxE 2 #[.int .i64 a0_0, .int .i64 a0_1, .int .i64 a0_2, .int .i64 a0_3, .int .i64 a0_4] 29 ?_; intro gb223 hg w16 hbox hb; have BK223 := Aside0.mk (hbox); have GW223 := gwS hg Z0; have GE223 := gwS hg Z0; replace HB := hbS Z0 hb; clear hb hbox hg) | ((with_reducible refine gate_dst (N := 3) rfl ?_); refine bxE 3 #[.int .i64 a1_0, .int .i64 a1_1, .int .i64 a1_2, .int .i64 a1_3, .int .i64 a1_4] 48 ?_; intro gb224 hg w17 hbox hb; have BK224 := Aside0.mk (hbox); have GW224 := gwS hg Z22; have GE224 := gwS hg Z22; replace HB := hbS Z22 hb; have NB223_224 := nbL hg BK223; have NB224_223 := nbG hg BK223; replace BK223 := bkB BK223 hb; clear hb hbox hg))
  replace BK223 := Aside0.mk (blk_drew BK223.out); replace BK224 := Aside0.mk (blk_drew BK224.out); replace HB := Aside0.mk (below_drew1 HB.out)
  refine start_ (n := 20) (S := fun w' => w'.cell? ⟨gb223, 0, none⟩ = some (.int .i64 a0_0) ∧ w'.cell? ⟨gb223, 1, none⟩ = some (.int .i64 a0_1) ∧ w'.cell? ⟨gb223, 2, none⟩ = some (.int .i64 a0_2) ∧ w'.cell? ⟨gb223, 3, none⟩ = some (.int .i64 a0_3) ∧ w'.cell? ⟨gb223, 4, none⟩ = some (.int .i64 a0_4) ∧ w'.cell? ⟨gb224, 0, none⟩ = some (.int .i64 a1_0) ∧ w'.cell? ⟨gb224, 1, none⟩ = some (.int .i64 a1_1) ∧ w'.cell? ⟨gb224, 2, none⟩ = some (.int .i64 a1_2) ∧ w'.cell? ⟨gb224, 3, none⟩ = some (.int .i64 a1_3) ∧ w'.cell? ⟨gb224, 4, none⟩ = some (.int .i64 a1_4)) (ds := []) #[false, false, false, false, false, false, false, false, false, false, false, false, false, false, false, false, false, false, false, false] Z5 rfl rfl ⟨(blk_cell BK223.out 0).trans rfl, (blk_cell BK223.out 1).trans rfl, (blk_cell BK223.out 2).trans rfl, (blk_cell BK223.out 3).trans rfl, (blk_cell BK223.out 4).trans rfl, (blk_cell BK224.out 0).trans rfl, (blk_cell BK224.out 1).trans rfl, (blk_cell BK224.out 2).trans rfl, (blk_cell BK224.out 3).trans rfl, (blk_cell BK224.out 4).trans rfl⟩ (fun hHeld => ?_); refine with_tabW impl_Rates_wage.tab1 impl_Rates_wage.bits1 (fun HT_ HW_ => ?_)
  generalize w17.drew = w18 at BK223 BK224 HB hHeld ⊢
  refine pure_ (i := 0) (N := some 6) (v := ?_) (a' := ?_) #[true, false, false, false, false, false, false, false, false, false, false, false, false, false, false, false, false, false, false, false] rfl rfl (any_of HT_.out Z5) (fun _ _ _ h => h) (Or.inl ⟨by rfl, ?_⟩) ?_ ?_
  rotate_left
  ·intro w'
   go_simp
   with_reducible rfl
  rotate_left
  ·simp only [Act.put, List.setIfInBounds_toArray, List.set_cons_zero, List.set_cons_succ, i64_w, i32_w]
   rfl
  refine pure_ (i := 6) (N := some 12) (v := ?_) (a' := ?_) #[true, false, false, false, false, false, true, false, false, false, false, false, false, false, false, false, false, false, false, false] rfl rfl (any_of HT_.out Z5) (fun _ _ _ h => h) (Or.inl ⟨by rfl, ?_⟩) ?_ ?_
  rotate_left
  ·intro w'
   go_simp
   with_reducible rfl
  rotate_left
  ·simp only [Act.put, List.setIfInBounds_toArray, List.set_cons_zero, List.set_cons_succ, i64_w, i32_w]
   rfl
  refine pure_ (i := 8) (N := some 14) (v := ?_) (a' := ?_) #[true, false, false, false, false, false, true, false, true, false, false, false, false, false, false, false, false, false, false, false] rfl rfl (any_of HT_.out Z5) (fun _ _ _ h => h) (Or.inl ⟨by rfl, ?_⟩) ?_ ?_
  rotate_left
  ·intro w'
   go_simp
   with_reducible rfl
  rotate_left
  ·simp only [Act.put, List.setIfInBounds_toArray, List.set_cons_zero, List.set_cons_succ, i64_w, i32_w]
   rfl
  refine pure_ (i := 12) (N := some 18) (v := ?_) (a' := ?_) #[true, false, false, false, false, false, true, false, true, false, false, false, true, false, false, false, false, false, false, false] rfl rfl (any_of HT_.out Z5) (fun _ _ _ h => h) (Or.inl ⟨by rfl, ?_⟩) ?_ ?_
  rotate_left
  ·intro w'
   go_simp
   with_reducible rfl
  rotate_left
  ·simp only [Act.put, List.setIfInBounds_toArray, List.set_cons_zero, List.set_cons_succ, i64_w, i32_w]
   rfl
  refine pure_ (i := 14) (N := some 20) (v := ?_) (a' := ?_) #[true, false, false, false, false, false, true, false, true, false, false, false, true, false, true, false, false, false, false, false] rfl rfl (any_of HT_.out Z5) (fun _ _ _ h => h) (Or.inl ⟨by rfl, ?_⟩) ?_ ?_
  rotate_left
  ·intro w'
   go_simp
   with_reducible rfl
  rotate_left
  ·simp only [Act.put, List.setIfInBounds_toArray, List.set_cons_zero, List.set_cons_succ, i64_w, i32_w]
   rfl
  refine take_ (i := 1) (N := some 7) (v := ?_) (a' := ?_) #[true, true, false, false, false, false, true, false, true, false, false, false, true, false, true, false, false, false, false, false] rfl rfl (take_ofW HT_.out HW_.out Z5) (fun _ _ _ h => h) (Or.inl ⟨by rfl, ?_⟩) hHeld ?_ ?_
  rotate_left
  ·rintro w' ⟨s0, s1, s2, s3, s4, s5, s6, s7, s8, s9⟩
   go_simp
   with_reducible rfl
  rotate_left
  ·simp only [Act.put, List.setIfInBounds_toArray, List.set_cons_zero, List.set_cons_succ, i64_w, i32_w]
   rfl
  refine take_ (i := 2) (N := some 8) (v := ?_) (a' := ?_) #[true, true, true, false, false, false, true, false, true, false, false, false, true, false, true, false, false, false, false, false] rfl rfl (take_ofW HT_.out HW_.out Z5) (fun _ _ _ h => h) (Or.inl ⟨by rfl, ?_⟩) hHeld ?_ ?_
  rotate_left
  ·rintro w' ⟨s0, s1, s2, s3, s4, s5, s6, s7, s8, s9⟩
   go_simp
   with_reducible rfl
  rotate_left
  ·simp only [Act.put, List.setIfInBounds_toArray, List.set_cons_zero, List.set_cons_succ, i64_w, i32_w]
   rfl
  refine take_ (i := 7) (N := some 13) (v := ?_) (a' := ?_) #[true, true, true, false, false, false, true, true, true, false, false, false, true, false, true, false, false, false, false, false] rfl rfl (take_ofW HT_.out HW_.out Z5) (fun _ _ _ h => h) (Or.inl ⟨by rfl, ?_⟩) hHeld ?_ ?_
  rotate_left
  ·rintro w' ⟨s0, s1, s2, s3, s4, s5, s6, s7, s8, s9⟩
   go_simp
   with_reducible rfl
  rotate_left
  ·simp only [Act.put, List.setIfInBounds_toArray, List.set_cons_zero, List.set_cons_succ, i64_w, i32_w]
   rfl
  refine take_ (i := 9) (N := some 15) (v := ?_) (a' := ?_) #[true, true, true, false, false, false, true, true, true, true, false, false, true, false, true, false, false, false, false, false] rfl rfl (take_ofW HT_.out HW_.out Z5) (fun _ _ _ h => h) (Or.inl ⟨by rfl, ?_⟩) hHeld ?_ ?_
  rotate_left
  ·rintro w' ⟨s0, s1, s2, s3, s4, s5, s6, s7, s8, s9⟩
   go_simp
   with_reducible rfl
  rotate_left
  ·simp only [Act.put, List.setIfInBounds_toArray, List.set_cons_zero, List.set_cons_succ, i64_w, i32_w]
   rfl
  refine pure_ (i := 10) (N := some 16) (v := ?_) (a' := ?_) #[true, true, true, false, false, false, true, true, true, true, true, false, true, false, true, false, false, false, false, false] rfl rfl (any_of HT_.out Z5) (fun _ _ _ h => h) (Or.inl ⟨by rfl, ?_⟩) ?_ ?_
  rotate_left
  ·intro w'
   go_simp
   with_reducible rfl
  rotate_left
  ·simp only [Act.put, List.setIfInBounds_toArray, List.set_cons_zero, List.set_cons_succ, i64_w, i32_w]
   rfl
  refine take_ (i := 13) (N := some 19) (v := ?_) (a' := ?_) #[true, true, true, false, false, false, true, true, true, true, true, false, true, true, true, false, false, false, false, false] rfl rfl (take_ofW HT_.out HW_.out Z5) (fun _ _ _ h => h) (Or.inl ⟨by rfl, ?_⟩) hHeld ?_ ?_
  rotate_left
  ·rintro w' ⟨s0, s1, s2, s3, s4, s5, s6, s7, s8, s9⟩
   go_simp
   with_reducible rfl
  rotate_left
  ·simp only [Act.put, List.setIfInBounds_toArray, List.set_cons_zero, List.set_cons_succ, i64_w, i32_w]
   rfl
  refine take_ (i := 15) (N := some 21) (v := ?_) (a' := ?_) #[true, true, true, false, false, false, true, true, true, true, true, false, true, true, true, true, false, false, false, false] rfl rfl (take_ofW HT_.out HW_.out Z5) (fun _ _ _ h => h) (Or.inl ⟨by rfl, ?_⟩) hHeld ?_ ?_
  rotate_left
  ·rintro w' ⟨s0, s1, s2, s3, s4, s5, s6, s7, s8, s9⟩
   go_simp
   with_reducible rfl
  rotate_left
  ·simp only [Act.put, List.setIfInBounds_toArray, List.set_cons_zero, List.set_cons_succ, i64_w, i32_w]
   rfl
  refine pure_ (i := 16) (N := some 22) (v := ?_) (a' := ?_) #[true, true, true, false, false, false, true, true, true, true, true, false, true, true, true, true, true, false, false, false] rfl rfl (any_of HT_.out Z5) (fun _ _ _ h => h) (Or.inl ⟨by rfl, ?_⟩) ?_ ?_
  rotate_left
  ·intro w'
   go_simp
   with_reducible rfl
  rotate_left
  ·simp only [Act.put, List.setIfInBounds_toArray, List.set_cons_zero, List.set_cons_succ, i64_w, i32_w]
   rfl
  refine pure_ (i := 17) (N := some 23) (v := ?_) (a' := ?_) #[true, true, true, false, false, false, true, true, true, true, true, false, true, true, true, true, true, true, false, false] rfl rfl (any_of HT_.out Z5) (fun _ _ _ h => h) (Or.inl ⟨by rfl, ?_⟩) ?_ ?_
  rotate_left
  ·intro w'
   go_simp
   with_reducible rfl
  rotate_left
  ·simp only [Act.put, List.setIfInBounds_toArray, List.set_cons_zero, List.set_cons_succ, i64_w, i32_w]
   rfl
  refine one_ (i := 3) (N := some 9) #[true, true, true, true, false, false, true, true, true, true, true, false, true, true, true, true, true, true, false, false] rfl rfl (one_of HT_.out Z5) (by decide) (fun K hK => ?_)
  refine goes_ Try.func74 Z5 rfl #[.agg #[.int .i64 a1_0, .int .i64 a1_1, .int .i64 a1_2, .int .i64 a1_3, .int .i64 a1_4]] (by rfl) rfl rfl Z13 ?_
  with_reducible refine (impl_WorkSheet_right.calls a1_0 a1_1 a1_2 a1_3 a1_4 t225 _ A3.out).mono ?_
  rintro e w19 ⟨rfl, hb⟩
  refine ⟨_, rfl, ?_⟩
  replace BK223 := bkB BK223 hb; replace BK224 := bkB BK224 hb; replace HB := hbS Z18 hb
  (try clear hb)
  (try clear hb2)
  (try clear hk)
  (try clear hi)
  refine hK.out _ _ ⟨(blk_cell BK223.out 0).trans rfl, (blk_cell BK223.out 1).trans rfl, (blk_cell BK223.out 2).trans rfl, (blk_cell BK223.out 3).trans rfl, (blk_cell BK223.out 4).trans rfl, (blk_cell BK224.out 0).trans rfl, (blk_cell BK224.out 1).trans rfl, (blk_cell BK224.out 2).trans rfl, (blk_cell BK224.out 3).trans rfl, (blk_cell BK224.out 4).trans rfl⟩ (fun hHeld => ?_)
  clear hK K
  refine noR 9 ?_
  refine pure_ (i := 4) (N := some 10) (v := ?_) (a' := ?_) #[true, true, true, true, true, false, true, true, true, true, true, false, true, true, true, true, true, true, false, false] rfl rfl (any_of HT_.out Z5) (fun _ _ _ h => h) (Or.inl ⟨by rfl, ?_⟩) ?_ ?_
  rotate_left
  ·intro w'
   go_simp
   with_reducible rfl
  rotate_left
  ·simp only [Act.put, List.setIfInBounds_toArray, List.set_cons_zero, List.set_cons_succ, i64_w, i32_w]
   rfl
  refine pure_ (i := 5) (N := some 11) (v := ?_) (a' := ?_) #[true, true, true, true, true, true, true, true, true, true, true, false, true, true, true, true, true, true, false, false] rfl rfl (any_of HT_.out Z5) (fun _ _ _ h => h) (Or.inl ⟨by rfl, ?_⟩) ?_ ?_
  rotate_left
  ·intro w'
   go_simp
   with_reducible rfl
  rotate_left
  ·simp only [Act.put, List.setIfInBounds_toArray, List.set_cons_zero, List.set_cons_succ, i64_w, i32_w]
   rfl
  refine pure_ (i := 11) (N := some 17) (v := ?_) (a' := ?_) #[true, true, true, true, true, true, true, true, true, true, true, true, true, true, true, true, true, true, false, false] rfl rfl (any_of HT_.out Z5) (fun _ _ _ h => h) (Or.inl ⟨by rfl, ?_⟩) ?_ ?_
  rotate_left
  ·intro w'
   go_simp
   with_reducible rfl
  rotate_left
  ·simp only [Act.put, List.setIfInBounds_toArray, List.set_cons_zero, List.set_cons_succ, i64_w, i32_w]
   rfl
  refine pure_ (i := 18) (N := some 24) (v := ?_) (a' := ?_) #[true, true, true, true, true, true, true, true, true, true, true, true, true, true, true, true, true, true, true, false] rfl rfl (any_of HT_.out Z5) (fun _ _ _ h => h) (Or.inl ⟨by rfl, ?_⟩) ?_ ?_
  rotate_left
  ·intro w'
   go_simp
   with_reducible rfl
  rotate_left
  ·simp only [Act.put, List.setIfInBounds_toArray, List.set_cons_zero, List.set_cons_succ, i64_w, i32_w]
   rfl
  refine pure_ (i := 19) (N := some 5) (v := ?_) (a' := ?_) #[true, true, true, true, true, true, true, true, true, true, true, true, true, true, true, true, true, true, true, true] rfl rfl (any_of HT_.out Z5) (fun _ _ _ h => h) (Or.inl ⟨by rfl, ?_⟩) ?_ ?_
  rotate_left
  ·intro w'
   go_simp
   with_reducible rfl
  rotate_left
  ·simp only [Act.put, List.setIfInBounds_toArray, List.set_cons_zero, List.set_cons_succ, i64_w, i32_w]
   rfl
  refine done_ (done_of HT_.out Z5) ?_
  have hnb20 := NB224_223.out
  have hnc20 := NB223_224.out
  obtain ⟨hcz21_0, hcz21_1, hcz21_2, hcz21_3, hcz21_4⟩ := bz5 BK224
  obtain ⟨hfz21_0, hfz21_1, hfz21_2, hfz21_3, hfz21_4⟩ := fz5 BK224
  try go_wp2_with (first | ((with_reducible refine gate_callee (f := 74) rfl ?_); refine glE (some 26) Try.func74 #[.agg #[.int .i64 a1_0, .int .i64 a1_1, .int .i64 a1_2, .int .i64 a1_3, .int .i64 a1_4]] ?_; (with_reducible refine (impl_WorkSheet_right.calls a1_0 a1_1 a1_2 a1_3 a1_4 t226 _ A4.out).mono ?_); rintro e w22 ⟨rfl, hb⟩; refine ⟨_, rfl, ?_⟩; replace BK223 := bkB BK223 hb; replace BK224 := bkB BK224 hb; replace HB := hbS Z18 hb; (try clear hb); obtain ⟨hcz23_0, hcz23_1, hcz23_2, hcz23_3, hcz23_4⟩ := bz5 BK223; obtain ⟨hfz23_0, hfz23_1, hfz23_2, hfz23_3, hfz23_4⟩ := fz5 BK223))
  go_ret
  exact ⟨by first | rfl | (simp [errW_none, errW_some] <;> rfl) | (simp only [← hji15]; first | rfl | (simp [errW_none, errW_some] <;> rfl)) | (simp [*, errW_none, errW_some] <;> rfl), Z18⟩
mutual
def impl_WagesBetween.j0 : Nat → List (S48) → Int → Int → Int → Bool → Int → Int → Int → Int → Int → Option (Int × Bool)
 | 0, _, _, _, _, _, _, _, _, _, _ => none
 | k + 1, x1, x2, x3, x4, x42, x228000, x228001, x228002, x228003, x228004 => if x42 = true then (some (0, false)) else (impl_WagesBetween.l0 k x2 x3 x4 0 x1 (x1.length : Int) 0 x228000 x228001 x228002 x228003 x228004)
def impl_WagesBetween.l0 : Nat → Int → Int → Int → Int → List (S48) → Int → Int → Int → Int → Int → Int → Int → Option (Int × Bool)
 | 0, _, _, _, _, _, _, _, _, _, _, _, _ => none
 | k + 1, x2, x3, x4, x12, x43, x44, x45, x228000, x228001, x228002, x228003, x228004 => if x45 < x44 then (if 0 ≤ x45 then (if x45 < (x43.length : Int) then (if ((rd_T48 x43 x45).f0) = x2 then ((impl_in.f ((rd_T48 x43 x45).f1) x3 x4).bind fun t235 => (if t235 = true then ((impl_Rates_wage.f x228000 x228001 x228002 x228003 x228004 ((rd_T48 x43 x45).f0) ((rd_T48 x43 x45).f1) ((rd_T48 x43 x45).f2) ((rd_T48 x43 x45).f3) ((rd_T48 x43 x45).f4)).bind fun t236 => (impl_WagesBetween.l0 k x2 x3 x4 (wrap64 (x12 + t236)) x43 x44 (wrap64 (x45 + 1)) x228000 x228001 x228002 x228003 x228004)) else (impl_WagesBetween.l0 k x2 x3 x4 x12 x43 x44 (wrap64 (x45 + 1)) x228000 x228001 x228002 x228003 x228004))) else (impl_WagesBetween.l0 k x2 x3 x4 x12 x43 x44 (wrap64 (x45 + 1)) x228000 x228001 x228002 x228003 x228004)) else (none)) else (none)) else (some (x12, true))
end
def impl_WagesBetween.f (k : Nat) (a0_0 : Int) (a0_1 : Int) (a0_2 : Int) (a0_3 : Int) (a0_4 : Int) (l1 : List (S48)) (a2 : Int) (a3 : Int) (a4 : Int) : Option (Int × Bool) := (impl_AreRates.f a0_0 a0_1 a0_2 a0_3 a0_4).bind fun t228 => (if t228 = true then ((impl_AreSheets.f l1).bind fun t229 => (if t229 = true then ((impl_isId.f a2).bind fun t230 => (if t230 = true then ((impl_isDay.f a3).bind fun t231 => (if t231 = true then ((impl_isDay.f a4).bind fun t232 => (if t232 = true then (impl_WagesBetween.j0 k l1 a2 a3 a4 (decide (a3 > a4)) a0_0 a0_1 a0_2 a0_3 a0_4) else (impl_WagesBetween.j0 k l1 a2 a3 a4 true a0_0 a0_1 a0_2 a0_3 a0_4))) else (impl_WagesBetween.j0 k l1 a2 a3 a4 true a0_0 a0_1 a0_2 a0_3 a0_4))) else (impl_WagesBetween.j0 k l1 a2 a3 a4 true a0_0 a0_1 a0_2 a0_3 a0_4))) else (impl_WagesBetween.j0 k l1 a2 a3 a4 true a0_0 a0_1 a0_2 a0_3 a0_4))) else (impl_WagesBetween.j0 k l1 a2 a3 a4 true a0_0 a0_1 a0_2 a0_3 a0_4))
theorem impl_WagesBetween.calls (k : Nat) (a0_0 : Int) (a0_1 : Int) (a0_2 : Int) (a0_3 : Int) (a0_4 : Int) (A1 : Option Addr) (c1 : Nat) (l1 : List (S48)) (a2 : Int) (a3 : Int) (a4 : Int) (r1 : Int) (r2 : Bool) (w : World) (hr1 : Kd.C k48 w A1 l1.length l1) (hc1 : l1.length ≤ c1) (h : impl_WagesBetween.f k a0_0 a0_1 a0_2 a0_3 a0_4 l1 a2 a3 a4 = some (r1, r2)) :
  Calls Try.prog 28 #[.agg #[.int .i64 a0_0, .int .i64 a0_1, .int .i64 a0_2, .int .i64 a0_3, .int .i64 a0_4], .slice A1 l1.length c1, .int .i64 a2, .int .i64 a3, .int .i64 a4] w fun e w' => e = .returned (.tuple #[.int .i64 r1, .bool r2]) ∧ Below w.heap.size w w' := by
 have hu29 := Try.underlying29
 have hu48 := Try.underlying48
 have HR1 := Aside0.mk hr1
 have HC1 := Aside0.mk hc1
 clear hr1 hc1
 have HB := Aside0.mk (Below.refl w.heap.size w)
 have H : ((impl_AreRates.f a0_0 a0_1 a0_2 a0_3 a0_4).bind fun t228 => (if t228 = true then ((impl_AreSheets.f l1).bind fun t229 => (if t229 = true then ((impl_isId.f a2).bind fun t230 => (if t230 = true then ((impl_isDay.f a3).bind fun t231 => (if t231 = true then ((impl_isDay.f a4).bind fun t232 => (if t232 = true then (impl_WagesBetween.j0 k l1 a2 a3 a4 (decide (a3 > a4)) a0_0 a0_1 a0_2 a0_3 a0_4) else (impl_WagesBetween.j0 k l1 a2 a3 a4 true a0_0 a0_1 a0_2 a0_3 a0_4))) else (impl_WagesBetween.j0 k l1 a2 a3 a4 true a0_0 a0_1 a0_2 a0_3 a0_4))) else (impl_WagesBetween.j0 k l1 a2 a3 a4 true a0_0 a0_1 a0_2 a0_3 a0_4))) else (impl_WagesBetween.j0 k l1 a2 a3 a4 true a0_0 a0_1 a0_2 a0_3 a0_4))) else (impl_WagesBetween.j0 k l1 a2 a3 a4 true a0_0 a0_1 a0_2 a0_3 a0_4))) = some (r1, r2) := h
 clear h
 have HC6 := Aside0.mk H
 clear H
 go_enter Try.func28, Try.ntmps28
 go_upto_region 1 with (first | ((with_reducible refine gate_dst (N := 5) rfl ?_); refine bxE 5 #[.int .i64 a0_0, .int .i64 a0_1, .int .i64 a0_2, .int .i64 a0_3, .int .i64 a0_4] 29 ?_; intro gb227 hg w7 hbox hb; have BK227 := Aside0.mk (hbox); have GW227 := gwS hg Z0; have GE227 := gwS hg Z0; replace HB := hbS Z0 hb; clear hb hbox hg))
 (try simp only [Act.put, List.setIfInBounds_toArray, List.set_cons_zero, List.set_cons_succ])
 go_cut [42] (fun v42 wc => ∃ (kq : Nat) (x42_5 : Bool), v42 = .bool x42_5 ∧ Aside0 (impl_WagesBetween.j0 kq l1 a2 a3 a4 x42_5 a0_0 a0_1 a0_2 a0_3 a0_4 = some (r1, r2)) ∧ Aside0 (kq ≤ k) ∧ Aside0 (wc.heap[gb227]? = some (.cells #[.int .i64 a0_0, .int .i64 a0_1, .int .i64 a0_2, .int .i64 a0_3, .int .i64 a0_4] 29 (0, 0))) ∧ Aside0 (Below w.heap.size w wc))
 case first =>
  have H := HC6.out
  clear HC6
  replace H := Option.bind_eq_some_iff.mp H
  obtain ⟨t228, A80, H⟩ := H
  replace H : (if t228 = true then ((impl_AreSheets.f l1).bind fun t229 => (if t229 = true then ((impl_isId.f a2).bind fun t230 => (if t230 = true then ((impl_isDay.f a3).bind fun t231 => (if t231 = true then ((impl_isDay.f a4).bind fun t232 => (if t232 = true then (impl_WagesBetween.j0 k l1 a2 a3 a4 (decide (a3 > a4)) a0_0 a0_1 a0_2 a0_3 a0_4) else (impl_WagesBetween.j0 k l1 a2 a3 a4 true a0_0 a0_1 a0_2 a0_3 a0_4))) else (impl_WagesBetween.j0 k l1 a2 a3 a4 true a0_0 a0_1 a0_2 a0_3 a0_4))) else (impl_WagesBetween.j0 k l1 a2 a3 a4 true a0_0 a0_1 a0_2 a0_3 a0_4))) else (impl_WagesBetween.j0 k l1 a2 a3 a4 true a0_0 a0_1 a0_2 a0_3 a0_4))) else (impl_WagesBetween.j0 k l1 a2 a3 a4 true a0_0 a0_1 a0_2 a0_3 a0_4)) = some (r1, r2) := H
  have A8 := Aside0.mk A80
  clear A80
  by_cases c9 : t228 = true
  ·subst c9
   have H1 : ((impl_AreSheets.f l1).bind fun t229 => (if t229 = true then ((impl_isId.f a2).bind fun t230 => (if t230 = true then ((impl_isDay.f a3).bind fun t231 => (if t231 = true then ((impl_isDay.f a4).bind fun t232 => (if t232 = true then (impl_WagesBetween.j0 k l1 a2 a3 a4 (decide (a3 > a4)) a0_0 a0_1 a0_2 a0_3 a0_4) else (impl_WagesBetween.j0 k l1 a2 a3 a4 true a0_0 a0_1 a0_2 a0_3 a0_4))) else (impl_WagesBetween.j0 k l1 a2 a3 a4 true a0_0 a0_1 a0_2 a0_3 a0_4))) else (impl_WagesBetween.j0 k l1 a2 a3 a4 true a0_0 a0_1 a0_2 a0_3 a0_4))) else (impl_WagesBetween.j0 k l1 a2 a3 a4 true a0_0 a0_1 a0_2 a0_3 a0_4))) = some (r1, r2) := by rw [if_pos rfl] at H; exact H
   clear H
   have H := H1
   clear H1
   replace H := Option.bind_eq_some_iff.mp H
   obtain ⟨t229, A100, H⟩ := H
   replace H : (if t229 = true then ((impl_isId.f a2).bind fun t230 => (if t230 = true then ((impl_isDay.f a3).bind fun t231 => (if t231 = true then ((impl_isDay.f a4).bind fun t232 => (if t232 = true then (impl_WagesBetween.j0 k l1 a2 a3 a4 (decide (a3 > a4)) a0_0 a0_1 a0_2 a0_3 a0_4) else (impl_WagesBetween.j0 k l1 a2 a3 a4 true a0_0 a0_1 a0_2 a0_3 a0_4))) else (impl_WagesBetween.j0 k l1 a2 a3 a4 true a0_0 a0_1 a0_2 a0_3 a0_4))) else (impl_WagesBetween.j0 k l1 a2 a3 a4 true a0_0 a0_1 a0_2 a0_3 a0_4))) else (impl_WagesBetween.j0 k l1 a2 a3 a4 true a0_0 a0_1 a0_2 a0_3 a0_4)) = some (r1, r2) := H
   have A10 := Aside0.mk A100
   clear A100
   by_cases c11 : t229 = true
   ·subst c11
    have H1 : ((impl_isId.f a2).bind fun t230 => (if t230 = true then ((impl_isDay.f a3).bind fun t231 => (if t231 = true then ((impl_isDay.f a4).bind fun t232 => (if t232 = true then (impl_WagesBetween.j0 k l1 a2 a3 a4 (decide (a3 > a4)) a0_0 a0_1 a0_2 a0_3 a0_4) else (impl_WagesBetween.j0 k l1 a2 a3 a4 true a0_0 a0_1 a0_2 a0_3 a0_4))) else (impl_WagesBetween.j0 k l1 a2 a3 a4 true a0_0 a0_1 a0_2 a0_3 a0_4))) else (impl_WagesBetween.j0 k l1 a2 a3 a4 true a0_0 a0_1 a0_2 a0_3 a0_4))) = some (r1, r2) := by rw [if_pos rfl] at H; exact H
    clear H
    have H := H1
    clear H1
    replace H := Option.bind_eq_some_iff.mp H
    obtain ⟨t230, A120, H⟩ := H
    replace H : (if t230 = true then ((impl_isDay.f a3).bind fun t231 => (if t231 = true then ((impl_isDay.f a4).bind fun t232 => (if t232 = true then (impl_WagesBetween.j0 k l1 a2 a3 a4 (decide (a3 > a4)) a0_0 a0_1 a0_2 a0_3 a0_4) else (impl_WagesBetween.j0 k l1 a2 a3 a4 true a0_0 a0_1 a0_2 a0_3 a0_4))) else (impl_WagesBetween.j0 k l1 a2 a3 a4 true a0_0 a0_1 a0_2 a0_3 a0_4))) else (impl_WagesBetween.j0 k l1 a2 a3 a4 true a0_0 a0_1 a0_2 a0_3 a0_4)) = some (r1, r2) := H
    have A12 := Aside0.mk A120
    clear A120
    by_cases c13 : t230 = true
    ·subst c13
     have H1 : ((impl_isDay.f a3).bind fun t231 => (if t231 = true then ((impl_isDay.f a4).bind fun t232 => (if t232 = true then (impl_WagesBetween.j0 k l1 a2 a3 a4 (decide (a3 > a4)) a0_0 a0_1 a0_2 a0_3 a0_4) else (impl_WagesBetween.j0 k l1 a2 a3 a4 true a0_0 a0_1 a0_2 a0_3 a0_4))) else (impl_WagesBetween.j0 k l1 a2 a3 a4 true a0_0 a0_1 a0_2 a0_3 a0_4))) = some (r1, r2) := by rw [if_pos rfl] at H; exact H
     clear H
     have H := H1
     clear H1
     replace H := Option.bind_eq_some_iff.mp H
     obtain ⟨t231, A140, H⟩ := H
     replace H : (if t231 = true then ((impl_isDay.f a4).bind fun t232 => (if t232 = true then (impl_WagesBetween.j0 k l1 a2 a3 a4 (decide (a3 > a4)) a0_0 a0_1 a0_2 a0_3 a0_4) else (impl_WagesBetween.j0 k l1 a2 a3 a4 true a0_0 a0_1 a0_2 a0_3 a0_4))) else (impl_WagesBetween.j0 k l1 a2 a3 a4 true a0_0 a0_1 a0_2 a0_3 a0_4)) = some (r1, r2) := H
     have A14 := Aside0.mk A140
     clear A140
     by_cases c15 : t231 = true
     ·subst c15
      have H1 : ((impl_isDay.f a4).bind fun t232 => (if t232 = true then (impl_WagesBetween.j0 k l1 a2 a3 a4 (decide (a3 > a4)) a0_0 a0_1 a0_2 a0_3 a0_4) else (impl_WagesBetween.j0 k l1 a2 a3 a4 true a0_0 a0_1 a0_2 a0_3 a0_4))) = some (r1, r2) := by rw [if_pos rfl] at H; exact H
      clear H
      have H := H1
      clear H1
      replace H := Option.bind_eq_some_iff.mp H
      obtain ⟨t232, A160, H⟩ := H
      replace H : (if t232 = true then (impl_WagesBetween.j0 k l1 a2 a3 a4 (decide (a3 > a4)) a0_0 a0_1 a0_2 a0_3 a0_4) else (impl_WagesBetween.j0 k l1 a2 a3 a4 true a0_0 a0_1 a0_2 a0_3 a0_4)) = some (r1, r2) := H
      have A16 := Aside0.mk A160
      clear A160
      by_cases c17 : t232 = true
      ·subst c17
       have H1 : (impl_WagesBetween.j0 k l1 a2 a3 a4 (decide (a3 > a4)) a0_0 a0_1 a0_2 a0_3 a0_4) = some (r1, r2) := by rw [if_pos rfl] at H; exact H
       clear H
       have H := H1
       clear H1
       have H' := Aside0.mk H
       clear H
       obtain ⟨hcz18_0, hcz18_1, hcz18_2, hcz18_3, hcz18_4⟩ := bz5 BK227
       obtain ⟨hfz18_0, hfz18_1, hfz18_2, hfz18_3, hfz18_4⟩ := fz5 BK227
       go_wp2_with (first | ((with_reducible refine gate_callee (f := 32) rfl ?_); refine glE (some 16) Try.func32 #[.agg #[.int .i64 a0_0, .int .i64 a0_1, .int .i64 a0_2, .int .i64 a0_3, .int .i64 a0_4]] ?_; (with_reducible refine (impl_AreRates.calls a0_0 a0_1 a0_2 a0_3 a0_4 true _ A8.out).mono ?_); rintro e w19 ⟨rfl, hb⟩; refine ⟨_, rfl, ?_⟩; replace BK227 := bkB BK227 hb; replace HB := hbS Z3 hb; (try clear hb)) | (go_at_call 39; (with_reducible refine (impl_AreSheets.calls _ _ l1 true _ ?side1 ?side2 A10.out).mono ?_); (case side1 => exact Z9); (case side2 => exact HC1.out); rintro e w20 ⟨rfl, hb⟩; replace BK227 := bkB BK227 hb; replace HB := hbS Z3 hb; (try clear hb)) | (go_at_call 55; (with_reducible refine (impl_isId.calls a2 true _ A12.out).mono ?_); rintro e w' ⟨rfl, ⟨nd, rfl⟩⟩) | (go_at_call 56; (with_reducible refine (impl_isDay.calls a3 true _ A14.out).mono ?_); rintro e w' ⟨rfl, ⟨nd, rfl⟩⟩) | (go_at_call 56; (with_reducible refine (impl_isDay.calls a4 true _ A16.out).mono ?_); rintro e w' ⟨rfl, ⟨nd, rfl⟩⟩))
       go_meet
       case rel => exact ⟨_, (decide (a3 > a4)), Z6, H', ⟨Z57⟩, ⟨Z25⟩, ⟨Z3⟩⟩
      ·replace c17 := Bool.eq_false_iff.mpr c17
       subst c17
       have H1 : (impl_WagesBetween.j0 k l1 a2 a3 a4 true a0_0 a0_1 a0_2 a0_3 a0_4) = some (r1, r2) := by rw [if_neg (show ¬ (false = true) by decide)] at H; exact H
       clear H
       have H := H1
       clear H1
       have H' := Aside0.mk H
       clear H
       obtain ⟨hcz21_0, hcz21_1, hcz21_2, hcz21_3, hcz21_4⟩ := bz5 BK227
       obtain ⟨hfz21_0, hfz21_1, hfz21_2, hfz21_3, hfz21_4⟩ := fz5 BK227
       go_wp2_with (first | ((with_reducible refine gate_callee (f := 32) rfl ?_); refine glE (some 16) Try.func32 #[.agg #[.int .i64 a0_0, .int .i64 a0_1, .int .i64 a0_2, .int .i64 a0_3, .int .i64 a0_4]] ?_; (with_reducible refine (impl_AreRates.calls a0_0 a0_1 a0_2 a0_3 a0_4 true _ A8.out).mono ?_); rintro e w22 ⟨rfl, hb⟩; refine ⟨_, rfl, ?_⟩; replace BK227 := bkB BK227 hb; replace HB := hbS Z3 hb; (try clear hb)) | (go_at_call 39; (with_reducible refine (impl_AreSheets.calls _ _ l1 true _ ?side1 ?side2 A10.out).mono ?_); (case side1 => exact Z9); (case side2 => exact HC1.out); rintro e w23 ⟨rfl, hb⟩; replace BK227 := bkB BK227 hb; replace HB := hbS Z3 hb; (try clear hb)) | (go_at_call 55; (with_reducible refine (impl_isId.calls a2 true _ A12.out).mono ?_); rintro e w' ⟨rfl, ⟨nd, rfl⟩⟩) | (go_at_call 56; (with_reducible refine (impl_isDay.calls a3 true _ A14.out).mono ?_); rintro e w' ⟨rfl, ⟨nd, rfl⟩⟩) | (go_at_call 56; (with_reducible refine (impl_isDay.calls a4 false _ A16.out).mono ?_); rintro e w' ⟨rfl, ⟨nd, rfl⟩⟩))
       go_meet
       case rel => exact ⟨_, (true), Z6, H', ⟨Z57⟩, ⟨Z25⟩, ⟨Z3⟩⟩
     ·replace c15 := Bool.eq_false_iff.mpr c15
      subst c15
      have H1 : (impl_WagesBetween.j0 k l1 a2 a3 a4 true a0_0 a0_1 a0_2 a0_3 a0_4) = some (r1, r2) := by rw [if_neg (show ¬ (false = true) by decide)] at H; exact H
      clear H
      have H := H1
      clear H1
      have H' := Aside0.mk H
      clear H
      obtain ⟨hcz24_0, hcz24_1, hcz24_2, hcz24_3, hcz24_4⟩ := bz5 BK227
      obtain ⟨hfz24_0, hfz24_1, hfz24_2, hfz24_3, hfz24_4⟩ := fz5 BK227
      go_wp2_with (first | ((with_reducible refine gate_callee (f := 32) rfl ?_); refine glE (some 16) Try.func32 #[.agg #[.int .i64 a0_0, .int .i64 a0_1, .int .i64 a0_2, .int .i64 a0_3, .int .i64 a0_4]] ?_; (with_reducible refine (impl_AreRates.calls a0_0 a0_1 a0_2 a0_3 a0_4 true _ A8.out).mono ?_); rintro e w25 ⟨rfl, hb⟩; refine ⟨_, rfl, ?_⟩; replace BK227 := bkB BK227 hb; replace HB := hbS Z3 hb; (try clear hb)) | (go_at_call 39; (with_reducible refine (impl_AreSheets.calls _ _ l1 true _ ?side1 ?side2 A10.out).mono ?_); (case side1 => exact Z9); (case side2 => exact HC1.out); rintro e w26 ⟨rfl, hb⟩; replace BK227 := bkB BK227 hb; replace HB := hbS Z3 hb; (try clear hb)) | (go_at_call 55; (with_reducible refine (impl_isId.calls a2 true _ A12.out).mono ?_); rintro e w' ⟨rfl, ⟨nd, rfl⟩⟩) | (go_at_call 56; (with_reducible refine (impl_isDay.calls a3 false _ A14.out).mono ?_); rintro e w' ⟨rfl, ⟨nd, rfl⟩⟩))
      go_meet
      case rel => exact ⟨_, (true), Z6, H', ⟨Z57⟩, ⟨Z25⟩, ⟨Z3⟩⟩
    ·replace c13 := Bool.eq_false_iff.mpr c13
     subst c13
     have H1 : (impl_WagesBetween.j0 k l1 a2 a3 a4 true a0_0 a0_1 a0_2 a0_3 a0_4) = some (r1, r2) := by rw [if_neg (show ¬ (false = true) by decide)] at H; exact H
     clear H
     have H := H1
     clear H1
     have H' := Aside0.mk H
     clear H
     obtain ⟨hcz27_0, hcz27_1, hcz27_2, hcz27_3, hcz27_4⟩ := bz5 BK227
     obtain ⟨hfz27_0, hfz27_1, hfz27_2, hfz27_3, hfz27_4⟩ := fz5 BK227
     go_wp2_with (first | ((with_reducible refine gate_callee (f := 32) rfl ?_); refine glE (some 16) Try.func32 #[.agg #[.int .i64 a0_0, .int .i64 a0_1, .int .i64 a0_2, .int .i64 a0_3, .int .i64 a0_4]] ?_; (with_reducible refine (impl_AreRates.calls a0_0 a0_1 a0_2 a0_3 a0_4 true _ A8.out).mono ?_); rintro e w28 ⟨rfl, hb⟩; refine ⟨_, rfl, ?_⟩; replace BK227 := bkB BK227 hb; replace HB := hbS Z3 hb; (try clear hb)) | (go_at_call 39; (with_reducible refine (impl_AreSheets.calls _ _ l1 true _ ?side1 ?side2 A10.out).mono ?_); (case side1 => exact Z9); (case side2 => exact HC1.out); rintro e w29 ⟨rfl, hb⟩; replace BK227 := bkB BK227 hb; replace HB := hbS Z3 hb; (try clear hb)) | (go_at_call 55; (with_reducible refine (impl_isId.calls a2 false _ A12.out).mono ?_); rintro e w' ⟨rfl, ⟨nd, rfl⟩⟩))
     go_meet
     case rel => exact ⟨_, (true), Z6, H', ⟨Z57⟩, ⟨Z25⟩, ⟨Z3⟩⟩
   ·replace c11 := Bool.eq_false_iff.mpr c11
    subst c11
    have H1 : (impl_WagesBetween.j0 k l1 a2 a3 a4 true a0_0 a0_1 a0_2 a0_3 a0_4) = some (r1, r2) := by rw [if_neg (show ¬ (false = true) by decide)] at H; exact H
    clear H
    have H := H1
    clear H1
    have H' := Aside0.mk H
    clear H
    obtain ⟨hcz30_0, hcz30_1, hcz30_2, hcz30_3, hcz30_4⟩ := bz5 BK227
    obtain ⟨hfz30_0, hfz30_1, hfz30_2, hfz30_3, hfz30_4⟩ := fz5 BK227
    go_wp2_with (first | ((with_reducible refine gate_callee (f := 32) rfl ?_); refine glE (some 16) Try.func32 #[.agg #[.int .i64 a0_0, .int .i64 a0_1, .int .i64 a0_2, .int .i64 a0_3, .int .i64 a0_4]] ?_; (with_reducible refine (impl_AreRates.calls a0_0 a0_1 a0_2 a0_3 a0_4 true _ A8.out).mono ?_); rintro e w31 ⟨rfl, hb⟩; refine ⟨_, rfl, ?_⟩; replace BK227 := bkB BK227 hb; replace HB := hbS Z3 hb; (try clear hb)) | (go_at_call 39; (with_reducible refine (impl_AreSheets.calls _ _ l1 false _ ?side1 ?side2 A10.out).mono ?_); (case side1 => exact Z9); (case side2 => exact HC1.out); rintro e w32 ⟨rfl, hb⟩; replace BK227 := bkB BK227 hb; replace HB := hbS Z3 hb; (try clear hb)))
    go_meet
    case rel => exact ⟨_, (true), Z6, H', ⟨Z57⟩, ⟨Z25⟩, ⟨Z3⟩⟩
  ·replace c9 := Bool.eq_false_iff.mpr c9
   subst c9
   have H1 : (impl_WagesBetween.j0 k l1 a2 a3 a4 true a0_0 a0_1 a0_2 a0_3 a0_4) = some (r1, r2) := by rw [if_neg (show ¬ (false = true) by decide)] at H; exact H
   clear H
   have H := H1
   clear H1
   have H' := Aside0.mk H
   clear H
   obtain ⟨hcz33_0, hcz33_1, hcz33_2, hcz33_3, hcz33_4⟩ := bz5 BK227
   obtain ⟨hfz33_0, hfz33_1, hfz33_2, hfz33_3, hfz33_4⟩ := fz5 BK227
   go_wp2_with (first | ((with_reducible refine gate_callee (f := 32) rfl ?_); refine glE (some 16) Try.func32 #[.agg #[.int .i64 a0_0, .int .i64 a0_1, .int .i64 a0_2, .int .i64 a0_3, .int .i64 a0_4]] ?_; (with_reducible refine (impl_AreRates.calls a0_0 a0_1 a0_2 a0_3 a0_4 false _ A8.out).mono ?_); rintro e w34 ⟨rfl, hb⟩; refine ⟨_, rfl, ?_⟩; replace BK227 := bkB BK227 hb; replace HB := hbS Z3 hb; (try clear hb)))
   go_meet
   case rel => exact ⟨_, (true), Z6, H', ⟨Z57⟩, ⟨Z25⟩, ⟨Z3⟩⟩
 case rest =>
  clear HC6
  try clear c1
  try clear c2
  try clear p2
  try clear c3
  try clear c9
  try clear c11
  try clear c13
  try clear c15
  try clear c17
  try clear c28
  try clear c32
  try clear hcz18_0
  try clear hcz18_1
  try clear hcz18_2
  try clear hcz18_3
  try clear hcz18_4
  try clear hcz21_0
  try clear hcz21_1
  try clear hcz21_2
  try clear hcz21_3
  try clear hcz21_4
  try clear hcz24_0
  try clear hcz24_1
  try clear hcz24_2
  try clear hcz24_3
  try clear hcz24_4
  try clear hcz27_0
  try clear hcz27_1
  try clear hcz27_2
  try clear hcz27_3
  try clear hcz27_4
  try clear hcz30_0
  try clear hcz30_1
  try clear hcz30_2
  try clear hcz30_3
  try clear hcz30_4
  try clear hcz33_0
  try clear hcz33_1
  try clear hcz33_2
  try clear hcz33_3
  try clear hcz33_4
  try clear hfz18_0
  try clear hfz18_1
  try clear hfz18_2
  try clear hfz18_3
  try clear hfz18_4
  try clear hfz21_0
  try clear hfz21_1
  try clear hfz21_2
  try clear hfz21_3
  try clear hfz21_4
  try clear hfz24_0
  try clear hfz24_1
  try clear hfz24_2
  try clear hfz24_3
  try clear hfz24_4
  try clear hfz27_0
  try clear hfz27_1
  try clear hfz27_2
  try clear hfz27_3
  try clear hfz27_4
  try clear hfz30_0
  try clear hfz30_1
  try clear hfz30_2
  try clear hfz30_3
  try clear hfz30_4
  try clear hfz33_0
  try clear hfz33_1
  try clear hfz33_2
  try clear hfz33_3
  try clear hfz33_4
  obtain ⟨kq, x42_5, rfl, HA, HJ5, BK227, HB⟩ := hcut
  cases kq with
  | zero => exact absurd HA.out (by simp [impl_WagesBetween.j0])
  | succ kj5 =>
   have H := HA.out
   clear HA
   simp only [impl_WagesBetween.j0] at H
   by_cases c35 : x42_5 = true
   ·subst c35
    have H1 : (some (0, false)) = some (r1, r2) := by rw [if_pos rfl] at H; exact H
    clear H
    have H := H1
    clear H1
    simp only [Option.some.injEq, Prod.mk.injEq] at H
    obtain ⟨rfl, rfl⟩ := H
    go_wp2
    go_ret2
    exact ⟨Z4, Z3⟩
   ·replace c35 := Bool.eq_false_iff.mpr c35
    subst c35
    have H1 : (impl_WagesBetween.l0 kj5 a2 a3 a4 0 l1 (l1.length : Int) 0 a0_0 a0_1 a0_2 a0_3 a0_4) = some (r1, r2) := by rw [if_neg (show ¬ (false = true) by decide)] at H; exact H
    clear H
    have H := H1
    clear H1
    have H' := Aside0.mk H
    clear H
    go_wp2
    go_loopg [12, 45] kj5 (fun kq v12 v45 w' => ∃ (x12_2 : Int) (x45_2 : Int), v12 = .int .i64 x12_2 ∧ v45 = .int .i64 x45_2 ∧ Aside0 (impl_WagesBetween.l0 kq a2 a3 a4 x12_2 l1 (l1.length : Int) x45_2 a0_0 a0_1 a0_2 a0_3 a0_4 = some (r1, r2)) ∧ Aside0 (kq ≤ kj5) ∧ Aside0 (w'.heap[gb227]? = some (.cells #[.int .i64 a0_0, .int .i64 a0_1, .int .i64 a0_2, .int .i64 a0_3, .int .i64 a0_4] 29 (0, 0))) ∧ Aside0 (Below w.heap.size w w'))
    case atStart => exact ⟨(0), (0), Z6, Z6, H', ⟨Nat.le_refl _⟩, ⟨Z25⟩, ⟨Z3⟩⟩
    case round =>
     clear H'
     try clear c1
     try clear c2
     try clear p2
     try clear c3
     try clear c9
     try clear c11
     try clear c13
     try clear c15
     try clear c17
     try clear c28
     try clear c32
     try clear c35
     try clear hcz18_0
     try clear hcz18_1
     try clear hcz18_2
     try clear hcz18_3
     try clear hcz18_4
     try clear hcz21_0
     try clear hcz21_1
     try clear hcz21_2
     try clear hcz21_3
     try clear hcz21_4
     try clear hcz24_0
     try clear hcz24_1
     try clear hcz24_2
     try clear hcz24_3
     try clear hcz24_4
     try clear hcz27_0
     try clear hcz27_1
     try clear hcz27_2
     try clear hcz27_3
     try clear hcz27_4
     try clear hcz30_0
     try clear hcz30_1
     try clear hcz30_2
     try clear hcz30_3
     try clear hcz30_4
     try clear hcz33_0
     try clear hcz33_1
     try clear hcz33_2
     try clear hcz33_3
     try clear hcz33_4
     try clear hfz18_0
     try clear hfz18_1
     try clear hfz18_2
     try clear hfz18_3
     try clear hfz18_4
     try clear hfz21_0
     try clear hfz21_1
     try clear hfz21_2
     try clear hfz21_3
     try clear hfz21_4
     try clear hfz24_0
     try clear hfz24_1
     try clear hfz24_2
     try clear hfz24_3
     try clear hfz24_4
     try clear hfz27_0
     try clear hfz27_1
     try clear hfz27_2
     try clear hfz27_3
     try clear hfz27_4
     try clear hfz30_0
     try clear hfz30_1
     try clear hfz30_2
     try clear hfz30_3
     try clear hfz30_4
     try clear hfz33_0
     try clear hfz33_1
     try clear hfz33_2
     try clear hfz33_3
     try clear hfz33_4
     try clear p2
     obtain ⟨x12_2, x45_2, rfl, rfl, HA, HK2, BK227, HB⟩ := hrel
     cases gk with
     | zero => exact absurd HA.out (by simp [impl_WagesBetween.l0])
     | succ k2 =>
      have H := HA.out
      clear HA
      simp only [impl_WagesBetween.l0] at H
      by_cases c36 : x45_2 < (l1.length : Int)
      ·rw [if_pos c36] at H
       have c36b0 : decide (x45_2 < (l1.length : Int)) = true := decide_eq_true c36
       clear c36
       by_cases c37 : 0 ≤ x45_2
       ·rw [if_pos c37] at H
        have c37b0 : decide (0 ≤ x45_2) = true := decide_eq_true c37
        clear c37
        by_cases c38 : x45_2 < (l1.length : Int)
        ·rw [if_pos c38] at H
         have c38b0 : decide (x45_2 < (l1.length : Int)) = true := decide_eq_true c38
         clear c38
         by_cases c39 : ((rd_T48 l1 x45_2).f0) = a2
         ·rw [if_pos c39] at H
          have c39b0 : (((rd_T48 l1 x45_2).f0) == a2) = true := beq_iff_eq.mpr c39
          have c39b1 : (((rd_T48 l1 x45_2).f0) != a2) = false := bne_eq_false_iff_eq.mpr c39
          clear c39
          replace H := Option.bind_eq_some_iff.mp H
          obtain ⟨t235, A400, H⟩ := H
          replace H : (if t235 = true then ((impl_Rates_wage.f a0_0 a0_1 a0_2 a0_3 a0_4 ((rd_T48 l1 x45_2).f0) ((rd_T48 l1 x45_2).f1) ((rd_T48 l1 x45_2).f2) ((rd_T48 l1 x45_2).f3) ((rd_T48 l1 x45_2).f4)).bind fun t236 => (impl_WagesBetween.l0 k2 a2 a3 a4 (wrap64 (x12_2 + t236)) l1 (l1.length : Int) (wrap64 (x45_2 + 1)) a0_0 a0_1 a0_2 a0_3 a0_4)) else (impl_WagesBetween.l0 k2 a2 a3 a4 x12_2 l1 (l1.length : Int) (wrap64 (x45_2 + 1)) a0_0 a0_1 a0_2 a0_3 a0_4)) = some (r1, r2) := H
          have A40 := Aside0.mk A400
          clear A400
          by_cases c41 : t235 = true
          ·subst c41
           have H1 : ((impl_Rates_wage.f a0_0 a0_1 a0_2 a0_3 a0_4 ((rd_T48 l1 x45_2).f0) ((rd_T48 l1 x45_2).f1) ((rd_T48 l1 x45_2).f2) ((rd_T48 l1 x45_2).f3) ((rd_T48 l1 x45_2).f4)).bind fun t236 => (impl_WagesBetween.l0 k2 a2 a3 a4 (wrap64 (x12_2 + t236)) l1 (l1.length : Int) (wrap64 (x45_2 + 1)) a0_0 a0_1 a0_2 a0_3 a0_4)) = some (r1, r2) := by rw [if_pos rfl] at H; exact H
           clear H
           have H := H1
           clear H1
           replace H := Option.bind_eq_some_iff.mp H
           obtain ⟨t236, A420, H⟩ := H
           replace H : (impl_WagesBetween.l0 k2 a2 a3 a4 (wrap64 (x12_2 + t236)) l1 (l1.length : Int) (wrap64 (x45_2 + 1)) a0_0 a0_1 a0_2 a0_3 a0_4) = some (r1, r2) := H
           have A42 := Aside0.mk A420
           clear A420
           have H' := Aside0.mk H
           clear H
           have p233 : 0 ≤ (x45_2 : Int) := of_decide_eq_true Z1
           have q233 : x45_2 < (l1.length : Int) := of_decide_eq_true Z1
           obtain ⟨ad233, e233, hx233_0, hx233_1, hx233_2, hx233_3, hx233_4⟩ := at_T48 HR1.out x45_2 p233 q233
           cases e233
           replace hx233_0 := (HB.out.cell (World.block_lt_of_cell? w _ hx233_0)).trans hx233_0
           replace hx233_1 := (HB.out.cell (World.block_lt_of_cell? w _ hx233_1)).trans hx233_1
           replace hx233_2 := (HB.out.cell (World.block_lt_of_cell? w _ hx233_2)).trans hx233_2
           replace hx233_3 := (HB.out.cell (World.block_lt_of_cell? w _ hx233_3)).trans hx233_3
           replace hx233_4 := (HB.out.cell (World.block_lt_of_cell? w _ hx233_4)).trans hx233_4
           replace p233 := eq_true p233
           replace q233 := eq_true q233
           go_wp2_with (first | ((with_reducible refine gate_dst (N := 14) rfl ?_); refine bxE 14 #[.int .i64 0, .int .i64 0, .int .i64 0, .int .i64 0, .int .i64 0] 48 ?_; intro gb234 hg w43 hbox hb; have BK234 := Aside0.mk (hbox); have GW234 := gwS hg Z3; have GE234 := gwS hg Z3; replace HB := hbS Z3 hb; have NB227_234 := nbL hg BK227; have NB234_227 := nbG hg BK227; replace BK227 := bkB BK227 hb; clear hb hbox hg; have hnb44 := NB234_227.out; have hnc44 := NB227_234.out; obtain ⟨hcz45_0, hcz45_1, hcz45_2, hcz45_3, hcz45_4⟩ := bz5 BK234; obtain ⟨hfz45_0, hfz45_1, hfz45_2, hfz45_3, hfz45_4⟩ := fz5 BK234) | (go_at_call 52; (with_reducible refine (impl_in.calls ((rd_T48 l1 x45_2).f1) a3 a4 true _ A40.out).mono ?_); rintro e w' ⟨rfl, ⟨nd, rfl⟩⟩; obtain ⟨hcz46_0, hcz46_1, hcz46_2, hcz46_3, hcz46_4⟩ := bz5 BK227; obtain ⟨hfz46_0, hfz46_1, hfz46_2, hfz46_3, hfz46_4⟩ := fz5 BK227) | ((with_reducible refine gate_callee (f := 49) rfl ?_); refine glE (some 63) Try.func49 #[.agg #[.int .i64 a0_0, .int .i64 a0_1, .int .i64 a0_2, .int .i64 a0_3, .int .i64 a0_4], .agg #[.int .i64 ((rd_T48 l1 x45_2).f0), .int .i64 ((rd_T48 l1 x45_2).f1), .int .i64 ((rd_T48 l1 x45_2).f2), .int .i64 ((rd_T48 l1 x45_2).f3), .int .i64 ((rd_T48 l1 x45_2).f4)]] ?_; (with_reducible refine (impl_Rates_wage.calls a0_0 a0_1 a0_2 a0_3 a0_4 ((rd_T48 l1 x45_2).f0) ((rd_T48 l1 x45_2).f1) ((rd_T48 l1 x45_2).f2) ((rd_T48 l1 x45_2).f3) ((rd_T48 l1 x45_2).f4) t236 _ A42.out).mono ?_); rintro e w47 ⟨rfl, hb⟩; refine ⟨_, rfl, ?_⟩; replace BK227 := Aside0.mk (blk_below (g := gb227) (o := .cells #[.int .i64 a0_0, .int .i64 a0_1, .int .i64 a0_2, .int .i64 a0_3, .int .i64 a0_4] 29 (0, 0)) Z11 hb); replace BK234 := Aside0.mk (blk_below (g := gb234) (o := .cells #[.int .i64 ((rd_T48 l1 x45_2).f0), .int .i64 ((rd_T48 l1 x45_2).f1), .int .i64 ((rd_T48 l1 x45_2).f2), .int .i64 ((rd_T48 l1 x45_2).f3), .int .i64 ((rd_T48 l1 x45_2).f4)] 48 (0, 0)) (by (with_reducible repeat (first | refine blk_drewN ?_ _ | refine blk_drew ?_ | refine blk_alloc ?_ _)); refine blk_put (cs := #[.int .i64 ((rd_T48 l1 x45_2).f0), .int .i64 ((rd_T48 l1 x45_2).f1), .int .i64 ((rd_T48 l1 x45_2).f2), .int .i64 ((rd_T48 l1 x45_2).f3), .int .i64 0]) ?_ 4 _ rfl; (with_reducible repeat (first | refine blk_drewN ?_ _ | refine blk_drew ?_ | refine blk_alloc ?_ _)); refine blk_put (cs := #[.int .i64 ((rd_T48 l1 x45_2).f0), .int .i64 ((rd_T48 l1 x45_2).f1), .int .i64 ((rd_T48 l1 x45_2).f2), .int .i64 0, .int .i64 0]) ?_ 3 _ rfl; (with_reducible repeat (first | refine blk_drewN ?_ _ | refine blk_drew ?_ | refine blk_alloc ?_ _)); refine blk_put (cs := #[.int .i64 ((rd_T48 l1 x45_2).f0), .int .i64 ((rd_T48 l1 x45_2).f1), .int .i64 0, .int .i64 0, .int .i64 0]) ?_ 2 _ rfl; (with_reducible repeat (first | refine blk_drewN ?_ _ | refine blk_drew ?_ | refine blk_alloc ?_ _)); refine blk_put (cs := #[.int .i64 ((rd_T48 l1 x45_2).f0), .int .i64 0, .int .i64 0, .int .i64 0, .int .i64 0]) ?_ 1 _ rfl; (with_reducible repeat (first | refine blk_drewN ?_ _ | refine blk_drew ?_ | refine blk_alloc ?_ _)); refine blk_put (cs := #[.int .i64 0, .int .i64 0, .int .i64 0, .int .i64 0, .int .i64 0]) ?_ 0 _ rfl; (with_reducible repeat (first | refine blk_drewN ?_ _ | refine blk_drew ?_ | refine blk_alloc ?_ _)); exact BK234.out) hb); replace HB := hbS Z31 hb; (try clear hb)))
           go_roundg k2
           case measure => have := HJ5.out; have := HK2.out; omega
           case rel => exact ⟨(wrap64 (x12_2 + t236)), (wrap64 (x45_2 + 1)), Z6, Z6, H', ⟨Z90⟩, ⟨Z25⟩, ⟨Z31⟩⟩
          ·replace c41 := Bool.eq_false_iff.mpr c41
           subst c41
           have H1 : (impl_WagesBetween.l0 k2 a2 a3 a4 x12_2 l1 (l1.length : Int) (wrap64 (x45_2 + 1)) a0_0 a0_1 a0_2 a0_3 a0_4) = some (r1, r2) := by rw [if_neg (show ¬ (false = true) by decide)] at H; exact H
           clear H
           have H := H1
           clear H1
           have H' := Aside0.mk H
           clear H
           have p233 : 0 ≤ (x45_2 : Int) := of_decide_eq_true Z1
           have q233 : x45_2 < (l1.length : Int) := of_decide_eq_true Z1
           obtain ⟨ad233, e233, hx233_0, hx233_1, hx233_2, hx233_3, hx233_4⟩ := at_T48 HR1.out x45_2 p233 q233
           cases e233
           replace hx233_0 := (HB.out.cell (World.block_lt_of_cell? w _ hx233_0)).trans hx233_0
           replace hx233_1 := (HB.out.cell (World.block_lt_of_cell? w _ hx233_1)).trans hx233_1
           replace hx233_2 := (HB.out.cell (World.block_lt_of_cell? w _ hx233_2)).trans hx233_2
           replace hx233_3 := (HB.out.cell (World.block_lt_of_cell? w _ hx233_3)).trans hx233_3
           replace hx233_4 := (HB.out.cell (World.block_lt_of_cell? w _ hx233_4)).trans hx233_4
           replace p233 := eq_true p233
           replace q233 := eq_true q233
           go_wp2_with (first | ((with_reducible refine gate_dst (N := 14) rfl ?_); refine bxE 14 #[.int .i64 0, .int .i64 0, .int .i64 0, .int .i64 0, .int .i64 0] 48 ?_; intro gb234 hg w48 hbox hb; have BK234 := Aside0.mk (hbox); have GW234 := gwS hg Z3; have GE234 := gwS hg Z3; replace HB := hbS Z3 hb; have NB227_234 := nbL hg BK227; have NB234_227 := nbG hg BK227; replace BK227 := bkB BK227 hb; clear hb hbox hg; have hnb49 := NB234_227.out; have hnc49 := NB227_234.out; obtain ⟨hcz50_0, hcz50_1, hcz50_2, hcz50_3, hcz50_4⟩ := bz5 BK234; obtain ⟨hfz50_0, hfz50_1, hfz50_2, hfz50_3, hfz50_4⟩ := fz5 BK234) | (go_at_call 52; (with_reducible refine (impl_in.calls ((rd_T48 l1 x45_2).f1) a3 a4 false _ A40.out).mono ?_); rintro e w' ⟨rfl, ⟨nd, rfl⟩⟩))
           go_roundg k2
           case measure => have := HJ5.out; have := HK2.out; omega
           case rel => exact ⟨(x12_2), (wrap64 (x45_2 + 1)), Z6, Z6, H', ⟨Z90⟩, ⟨Z11⟩, ⟨Z31⟩⟩
         ·rw [if_neg c39] at H
          have c39b0 : (((rd_T48 l1 x45_2).f0) == a2) = false := beq_eq_false_iff_ne.mpr c39
          have c39b1 : (((rd_T48 l1 x45_2).f0) != a2) = true := bne_iff_ne.mpr c39
          have H' := Aside0.mk H
          clear H
          have p233 : 0 ≤ (x45_2 : Int) := of_decide_eq_true Z1
          have q233 : x45_2 < (l1.length : Int) := of_decide_eq_true Z1
          obtain ⟨ad233, e233, hx233_0, hx233_1, hx233_2, hx233_3, hx233_4⟩ := at_T48 HR1.out x45_2 p233 q233
          cases e233
          replace hx233_0 := (HB.out.cell (World.block_lt_of_cell? w _ hx233_0)).trans hx233_0
          replace hx233_1 := (HB.out.cell (World.block_lt_of_cell? w _ hx233_1)).trans hx233_1
          replace hx233_2 := (HB.out.cell (World.block_lt_of_cell? w _ hx233_2)).trans hx233_2
          replace hx233_3 := (HB.out.cell (World.block_lt_of_cell? w _ hx233_3)).trans hx233_3
          replace hx233_4 := (HB.out.cell (World.block_lt_of_cell? w _ hx233_4)).trans hx233_4
          replace p233 := eq_true p233
          replace q233 := eq_true q233
          go_wp2_with (first | ((with_reducible refine gate_dst (N := 14) rfl ?_); refine bxE 14 #[.int .i64 0, .int .i64 0, .int .i64 0, .int .i64 0, .int .i64 0] 48 ?_; intro gb234 hg w51 hbox hb; have BK234 := Aside0.mk (hbox); have GW234 := gwS hg Z3; have GE234 := gwS hg Z3; replace HB := hbS Z3 hb; have NB227_234 := nbL hg BK227; have NB234_227 := nbG hg BK227; replace BK227 := bkB BK227 hb; clear hb hbox hg; have hnb52 := NB234_227.out; have hnc52 := NB227_234.out; obtain ⟨hcz53_0, hcz53_1, hcz53_2, hcz53_3, hcz53_4⟩ := bz5 BK234; obtain ⟨hfz53_0, hfz53_1, hfz53_2, hfz53_3, hfz53_4⟩ := fz5 BK234))
          go_roundg k2
          case measure => have := HJ5.out; have := HK2.out; omega
          case rel => exact ⟨(x12_2), (wrap64 (x45_2 + 1)), Z6, Z6, H', ⟨Z90⟩, ⟨Z11⟩, ⟨Z31⟩⟩
        ·rw [if_neg c38] at H
         exact absurd H (by simp)
       ·rw [if_neg c37] at H
        exact absurd H (by simp)
      ·rw [if_neg c36] at H
       have c36b0 : decide (x45_2 < (l1.length : Int)) = false := decide_eq_false c36
       clear c36
       simp only [Option.some.injEq, Prod.mk.injEq] at H
       obtain ⟨rfl, rfl⟩ := H
       go_wp2
       go_ret2
       exact ⟨Z4, Z3⟩
mutual
def impl_PayRoll.j0 : Nat → List (S48) → Bool → Int → Int → Int → Int → Int → Option (List Int × List Int × Bool)
 | 0, _, _, _, _, _, _, _ => none
 | k + 1, x1, x20, x250000, x250001, x250002, x250003, x250004 => if x20 = true then (some (([] : List Int), ([] : List Int), false)) else ((impl_weaversOf.f k x1).bind fun t252 => (impl_PayRoll.l0 k x1 t252 (([] : List Int)) (t252.length : Int) 0 x250000 x250001 x250002 x250003 x250004))
def impl_PayRoll.l0 : Nat → List (S48) → List Int → List Int → Int → Int → Int → Int → Int → Int → Int → Option (List Int × List Int × Bool)
 | 0, _, _, _, _, _, _, _, _, _, _ => none
 | k + 1, x1, x7, x8, x25, x26, x250000, x250001, x250002, x250003, x250004 => if x26 < x25 then (if 0 ≤ x26 then (if x26 < (x7.length : Int) then ((impl_WagesBetween.f k x250000 x250001 x250002 x250003 x250004 x1 (rd x7 x26) 0 4000).bind fun bt259 => (if x8.length < 17592186044416 then (impl_PayRoll.l0 k x1 x7 (x8 ++ [bt259.1]) x25 (wrap64 (x26 + 1)) x250000 x250001 x250002 x250003 x250004) else (none))) else (none)) else (none)) else (some (x7, x8, true))
end
def impl_PayRoll.f (k : Nat) (a0_0 : Int) (a0_1 : Int) (a0_2 : Int) (a0_3 : Int) (a0_4 : Int) (l1 : List (S48)) : Option (List Int × List Int × Bool) := (impl_AreRates.f a0_0 a0_1 a0_2 a0_3 a0_4).bind fun t250 => (if t250 = true then ((impl_AreSheets.f l1).bind fun t251 => (impl_PayRoll.j0 k l1 (!t251) a0_0 a0_1 a0_2 a0_3 a0_4)) else (impl_PayRoll.j0 k l1 true a0_0 a0_1 a0_2 a0_3 a0_4))
theorem impl_PayRoll.calls (k : Nat) (a0_0 : Int) (a0_1 : Int) (a0_2 : Int) (a0_3 : Int) (a0_4 : Int) (A1 : Option Addr) (c1 : Nat) (l1 : List (S48)) (r1 : List Int) (r2 : List Int) (r3 : Bool) (w : World) (hr1 : Kd.C k48 w A1 l1.length l1) (hc1 : l1.length ≤ c1) (h : impl_PayRoll.f k a0_0 a0_1 a0_2 a0_3 a0_4 l1 = some (r1, r2, r3)) :
  Calls Try.prog 10 #[.agg #[.int .i64 a0_0, .int .i64 a0_1, .int .i64 a0_2, .int .i64 a0_3, .int .i64 a0_4], .slice A1 l1.length c1] w fun e w' => ∃ v0_ v1_ : Value, e = .returned (.tuple #[v0_, v1_, .bool r3]) ∧ Kd.R (Kd.int .i64) 3 w' w.heap.size (fun k_ => some k_ ≠ (v1_ : Value).ownBlock) v0_ r1 ∧ Kd.R (Kd.int .i64) 3 w' w.heap.size (fun k_ => some k_ ≠ (v0_ : Value).ownBlock) v1_ r2 ∧ Below w.heap.size w w' := by
 have hu29 := Try.underlying29
 have HR1 := Aside0.mk hr1
 have HC1 := Aside0.mk hc1
 clear hr1 hc1
 have HB := Aside0.mk (Below.refl w.heap.size w)
 have H : ((impl_AreRates.f a0_0 a0_1 a0_2 a0_3 a0_4).bind fun t250 => (if t250 = true then ((impl_AreSheets.f l1).bind fun t251 => (impl_PayRoll.j0 k l1 (!t251) a0_0 a0_1 a0_2 a0_3 a0_4)) else (impl_PayRoll.j0 k l1 true a0_0 a0_1 a0_2 a0_3 a0_4))) = some (r1, r2, r3) := h
 clear h
 have HC3 := Aside0.mk H
 clear H
 go_enter Try.func10, Try.ntmps10
 go_upto_region 1 with (first | ((with_reducible refine gate_dst (N := 2) rfl ?_); refine bxE 2 #[.int .i64 a0_0, .int .i64 a0_1, .int .i64 a0_2, .int .i64 a0_3, .int .i64 a0_4] 29 ?_; intro gb249 hg w4 hbox hb; have BK249 := Aside0.mk (hbox); have GW249 := gwS hg Z0; have GE249 := gwS hg Z0; replace HB := hbS Z0 hb; clear hb hbox hg))
 (try simp only [Act.put, List.setIfInBounds_toArray, List.set_cons_zero, List.set_cons_succ])
 go_cut [20] (fun v20 wc => ∃ (kq : Nat) (x20_2 : Bool), v20 = .bool x20_2 ∧ Aside0 (impl_PayRoll.j0 kq l1 x20_2 a0_0 a0_1 a0_2 a0_3 a0_4 = some (r1, r2, r3)) ∧ Aside0 (kq ≤ k) ∧ Aside0 (wc.heap[gb249]? = some (.cells #[.int .i64 a0_0, .int .i64 a0_1, .int .i64 a0_2, .int .i64 a0_3, .int .i64 a0_4] 29 (0, 0))) ∧ Aside0 (Below w.heap.size w wc))
 case first =>
  have H := HC3.out
  clear HC3
  replace H := Option.bind_eq_some_iff.mp H
  obtain ⟨t250, A50, H⟩ := H
  replace H : (if t250 = true then ((impl_AreSheets.f l1).bind fun t251 => (impl_PayRoll.j0 k l1 (!t251) a0_0 a0_1 a0_2 a0_3 a0_4)) else (impl_PayRoll.j0 k l1 true a0_0 a0_1 a0_2 a0_3 a0_4)) = some (r1, r2, r3) := H
  have A5 := Aside0.mk A50
  clear A50
  by_cases c6 : t250 = true
  ·subst c6
   have H1 : ((impl_AreSheets.f l1).bind fun t251 => (impl_PayRoll.j0 k l1 (!t251) a0_0 a0_1 a0_2 a0_3 a0_4)) = some (r1, r2, r3) := by rw [if_pos rfl] at H; exact H
   clear H
   have H := H1
   clear H1
   replace H := Option.bind_eq_some_iff.mp H
   obtain ⟨t251, A70, H⟩ := H
   replace H : (impl_PayRoll.j0 k l1 (!t251) a0_0 a0_1 a0_2 a0_3 a0_4) = some (r1, r2, r3) := H
   have A7 := Aside0.mk A70
   clear A70
   have H' := Aside0.mk H
   clear H
   obtain ⟨hcz8_0, hcz8_1, hcz8_2, hcz8_3, hcz8_4⟩ := bz5 BK249
   obtain ⟨hfz8_0, hfz8_1, hfz8_2, hfz8_3, hfz8_4⟩ := fz5 BK249
   go_wp2_with (first | ((with_reducible refine gate_callee (f := 32) rfl ?_); refine glE (some 14) Try.func32 #[.agg #[.int .i64 a0_0, .int .i64 a0_1, .int .i64 a0_2, .int .i64 a0_3, .int .i64 a0_4]] ?_; (with_reducible refine (impl_AreRates.calls a0_0 a0_1 a0_2 a0_3 a0_4 true _ A5.out).mono ?_); rintro e w9 ⟨rfl, hb⟩; refine ⟨_, rfl, ?_⟩; replace BK249 := bkB BK249 hb; replace HB := hbS Z10 hb; (try clear hb)) | (go_at_call 39; (with_reducible refine (impl_AreSheets.calls _ _ l1 t251 _ ?side1 ?side2 A7.out).mono ?_); (case side1 => exact Z9); (case side2 => exact HC1.out); rintro e w10 ⟨rfl, hb⟩; replace BK249 := bkB BK249 hb; replace HB := hbS Z10 hb; (try clear hb)))
   go_meet
   case rel => exact ⟨_, (!t251), Z6, H', ⟨Z57⟩, ⟨Z42⟩, ⟨Z10⟩⟩
  ·replace c6 := Bool.eq_false_iff.mpr c6
   subst c6
   have H1 : (impl_PayRoll.j0 k l1 true a0_0 a0_1 a0_2 a0_3 a0_4) = some (r1, r2, r3) := by rw [if_neg (show ¬ (false = true) by decide)] at H; exact H
   clear H
   have H := H1
   clear H1
   have H' := Aside0.mk H
   clear H
   obtain ⟨hcz11_0, hcz11_1, hcz11_2, hcz11_3, hcz11_4⟩ := bz5 BK249
   obtain ⟨hfz11_0, hfz11_1, hfz11_2, hfz11_3, hfz11_4⟩ := fz5 BK249
   go_wp2_with (first | ((with_reducible refine gate_callee (f := 32) rfl ?_); refine glE (some 14) Try.func32 #[.agg #[.int .i64 a0_0, .int .i64 a0_1, .int .i64 a0_2, .int .i64 a0_3, .int .i64 a0_4]] ?_; (with_reducible refine (impl_AreRates.calls a0_0 a0_1 a0_2 a0_3 a0_4 false _ A5.out).mono ?_); rintro e w12 ⟨rfl, hb⟩; refine ⟨_, rfl, ?_⟩; replace BK249 := bkB BK249 hb; replace HB := hbS Z10 hb; (try clear hb)))
   go_meet
   case rel => exact ⟨_, (true), Z6, H', ⟨Z57⟩, ⟨Z42⟩, ⟨Z10⟩⟩
 case rest =>
  clear HC3
  try clear c1
  try clear p2
  try clear c3
  try clear c6
  try clear c10
  try clear hcz11_0
  try clear hcz11_1
  try clear hcz11_2
  try clear hcz11_3
  try clear hcz11_4
  try clear hcz8_0
  try clear hcz8_1
  try clear hcz8_2
  try clear hcz8_3
  try clear hcz8_4
  try clear hfz11_0
  try clear hfz11_1
  try clear hfz11_2
  try clear hfz11_3
  try clear hfz11_4
  try clear hfz8_0
  try clear hfz8_1
  try clear hfz8_2
  try clear hfz8_3
  try clear hfz8_4
  obtain ⟨kq, x20_2, rfl, HA, HJ2, BK249, HB⟩ := hcut
  cases kq with
  | zero => exact absurd HA.out (by simp [impl_PayRoll.j0])
  | succ kj2 =>
   have H := HA.out
   clear HA
   simp only [impl_PayRoll.j0] at H
   by_cases c13 : x20_2 = true
   ·subst c13
    have H1 : (some (([] : List Int), ([] : List Int), false)) = some (r1, r2, r3) := by rw [if_pos rfl] at H; exact H
    clear H
    have H := H1
    clear H1
    simp only [Option.some.injEq, Prod.mk.injEq] at H
    obtain ⟨rfl, rfl, rfl⟩ := H
    go_wp2
    go_ret3
    exact ⟨_, _, Z4, Z74, Z74, Z10⟩
   ·replace c13 := Bool.eq_false_iff.mpr c13
    subst c13
    have H1 : ((impl_weaversOf.f kj2 l1).bind fun t252 => (impl_PayRoll.l0 kj2 l1 t252 (([] : List Int)) (t252.length : Int) 0 a0_0 a0_1 a0_2 a0_3 a0_4)) = some (r1, r2, r3) := by rw [if_neg (show ¬ (false = true) by decide)] at H; exact H
    clear H
    have H := H1
    clear H1
    replace H := Option.bind_eq_some_iff.mp H
    obtain ⟨t252, A140, H⟩ := H
    replace H : (impl_PayRoll.l0 kj2 l1 t252 (([] : List Int)) (t252.length : Int) 0 a0_0 a0_1 a0_2 a0_3 a0_4) = some (r1, r2, r3) := H
    have A14 := Aside0.mk A140
    clear A140
    obtain ⟨y255, hy255⟩ : ∃ y_ : List Int, y_ = (([] : List Int)) := ⟨_, rfl⟩
    replace H : (impl_PayRoll.l0 kj2 l1 t252 y255 (t252.length : Int) 0 a0_0 a0_1 a0_2 a0_3 a0_4) = some (r1, r2, r3) := by first | (rw [hy255]; with_reducible exact H) | (have H2_ := (Option.bind_some _ _).symm.trans H; rw [hy255]; with_reducible exact H2_) | (have H2_ := (Option.bind_some _ _).symm.trans H; with_reducible exact H2_) | with_reducible exact H | (rw [hy255]; exact H) | exact H
    have Ny255 := Aside0.mk hy255
    clear hy255
    have H' := Aside0.mk H
    clear H
    go_wp2_with (first | ((with_reducible refine gate_callee (f := 40) rfl ?_); refine glE (some 22) Try.func40 #[.slice A1 l1.length c1] ?_; (with_reducible refine (impl_weaversOf.calls kj2 _ _ l1 t252 _ ?side1 ?side2 A14.out).mono ?_); (case side1 => exact Z9); (case side2 => exact HC1.out); rintro e w15 ⟨v253, rfl, ho0, hb⟩; refine ⟨_, rfl, ?_⟩; have HO254 := Aside0.mk (Kd.R_lower ho0 (below_size Z10)); replace BK249 := bkB BK249 hb; replace HB := hbS Z10 hb; (try clear hb); (try clear ho0)) | ((with_reducible refine gate_dst (N := 23) rfl ?_); refine Kd.R_lit (Kd.int .i64) _ 3 ?hg (N := 23) ?hd (xs := ([] : List Int)) (inner := []) (ok := fun _ => True) (okp := fun _ => True) ?hr ?hp (fun _ hk => hk) trivial (Below.refl _ _) (Nat.le_refl _) (by simp) ?_; (case hd => rfl); (case hg => rfl); (case hr => first | (go_simp; done) | (go_simp; rfl)); (case hp => exact (Reps.none _ _)); intro v256 w16 ho17 hb hg_ hnew_; clear hg_ hnew_; (first | rw [← Ny255.out] at ho17 | (simp only [Int.reduceToNat] at ho17; rw [← Ny255.out] at ho17)); have HO257 := Aside0.mk (Kd.R_lower (Kd.R_new' ho17 (Kd.R_lt Z83)) (below_size Z10)); replace HO254 := Aside0.mk (Kd.R_elder' Z83 (Kd.R_base ho17) hb); replace BK249 := bkB BK249 hb; replace HB := hbS Z10 hb; clear hb ho17; obtain ⟨Ao18, co18, eo18⟩ := Kd.R_slice HO254.out; subst eo18))
    go_loopg [8, 26] kj2 (fun kq v8 v26 w' => ∃ (x8_2 : List Int) (x26_2 : Int), v26 = .int .i64 x26_2 ∧ Aside0 (impl_PayRoll.l0 kq l1 t252 x8_2 (t252.length : Int) x26_2 a0_0 a0_1 a0_2 a0_3 a0_4 = some (r1, r2, r3)) ∧ Aside0 (kq ≤ kj2) ∧ Aside0 (Kd.R (Kd.int .i64) 3 w' w.heap.size (fun k_ => some k_ ≠ (v8 : Value).ownBlock) (.slice Ao18 t252.length co18) t252) ∧ Aside0 (Kd.R (Kd.int .i64) 3 w' w.heap.size (fun k_ => some k_ ≠ ((.slice Ao18 t252.length co18) : Value).ownBlock) v8 x8_2) ∧ Aside0 (w'.heap[gb249]? = some (.cells #[.int .i64 a0_0, .int .i64 a0_1, .int .i64 a0_2, .int .i64 a0_3, .int .i64 a0_4] 29 (0, 0))) ∧ Aside0 (Below w.heap.size w w'))
    case atStart => exact ⟨(y255), (0), Z6, H', ⟨Nat.le_refl _⟩, ⟨by (with_reducible repeat (first | apply Kd.R_alloc | apply Kd.R_drewN | apply Kd.R_drew)); exact Kd.R_mono HO254.out (fun _ hk => hk.2)⟩, ⟨by (with_reducible repeat (first | apply Kd.R_alloc | apply Kd.R_drewN | apply Kd.R_drew)); exact Kd.R_mono HO257.out (fun _ hk => hk.2)⟩, ⟨Z42⟩, ⟨Z10⟩⟩
    case round =>
     clear H'
     try clear c1
     try clear p2
     try clear c3
     try clear c4
     try clear c6
     try clear c10
     try clear c13
     try clear hcz11_0
     try clear hcz11_1
     try clear hcz11_2
     try clear hcz11_3
     try clear hcz11_4
     try clear hcz8_0
     try clear hcz8_1
     try clear hcz8_2
     try clear hcz8_3
     try clear hcz8_4
     try clear hfz11_0
     try clear hfz11_1
     try clear hfz11_2
     try clear hfz11_3
     try clear hfz11_4
     try clear hfz8_0
     try clear hfz8_1
     try clear hfz8_2
     try clear hfz8_3
     try clear hfz8_4
     try clear p2
     obtain ⟨x8_2, x26_2, rfl, HA, HK2, HO_7, HO_8, BK249, HB⟩ := hrel
     cases gk with
     | zero => exact absurd HA.out (by simp [impl_PayRoll.l0])
     | succ k2 =>
      have H := HA.out
      clear HA
      simp only [impl_PayRoll.l0] at H
      by_cases c19 : x26_2 < (t252.length : Int)
      ·rw [if_pos c19] at H
       have c19b0 : decide (x26_2 < (t252.length : Int)) = true := decide_eq_true c19
       clear c19
       by_cases c20 : 0 ≤ x26_2
       ·rw [if_pos c20] at H
        have c20b0 : decide (0 ≤ x26_2) = true := decide_eq_true c20
        clear c20
        by_cases c21 : x26_2 < (t252.length : Int)
        ·rw [if_pos c21] at H
         have c21b0 : decide (x26_2 < (t252.length : Int)) = true := decide_eq_true c21
         clear c21
         replace H := Option.bind_eq_some_iff.mp H
         obtain ⟨⟨t259, t260⟩, A220, H⟩ := H
         replace H : (if x8_2.length < 17592186044416 then (impl_PayRoll.l0 k2 l1 t252 (x8_2 ++ [t259]) (t252.length : Int) (wrap64 (x26_2 + 1)) a0_0 a0_1 a0_2 a0_3 a0_4) else (none)) = some (r1, r2, r3) := H
         have A22 := Aside0.mk A220
         clear A220
         by_cases c23 : x8_2.length < 17592186044416
         ·rw [if_pos c23] at H
          have LMc23 := Aside0.mk c23
          clear c23
          obtain ⟨y261, hy261⟩ : ∃ y_ : List Int, y_ = (x8_2 ++ [t259]) := ⟨_, rfl⟩
          replace H : (impl_PayRoll.l0 k2 l1 t252 y261 (t252.length : Int) (wrap64 (x26_2 + 1)) a0_0 a0_1 a0_2 a0_3 a0_4) = some (r1, r2, r3) := by first | (rw [hy261]; with_reducible exact H) | (have H2_ := (Option.bind_some _ _).symm.trans H; rw [hy261]; with_reducible exact H2_) | (have H2_ := (Option.bind_some _ _).symm.trans H; with_reducible exact H2_) | with_reducible exact H | (rw [hy261]; exact H) | exact H
          have Ny261 := Aside0.mk hy261
          clear hy261
          have H' := Aside0.mk H
          clear H
          have p258 : 0 ≤ (x26_2 : Int) := of_decide_eq_true Z1
          have q258 : x26_2 < (t252.length : Int) := of_decide_eq_true Z1
          obtain ⟨ad258, e258, hx258_0⟩ := Kd.at_int (Kd.R_reads' HO_7.out).2.2 x26_2 p258 q258
          cases e258
          replace p258 := eq_true p258
          replace q258 := eq_true q258
          obtain ⟨hcz24_0, hcz24_1, hcz24_2, hcz24_3, hcz24_4⟩ := bz5 BK249
          obtain ⟨hfz24_0, hfz24_1, hfz24_2, hfz24_3, hfz24_4⟩ := fz5 BK249
          go_wp2_with (first | ((with_reducible refine gate_callee (f := 28) rfl ?_); refine glE (some 34) Try.func28 #[.agg #[.int .i64 a0_0, .int .i64 a0_1, .int .i64 a0_2, .int .i64 a0_3, .int .i64 a0_4], .slice A1 l1.length c1, .int .i64 (rd t252 x26_2), .int .i64 0, .int .i64 4000] ?_; (with_reducible refine (impl_WagesBetween.calls k2 a0_0 a0_1 a0_2 a0_3 a0_4 _ _ l1 (rd t252 x26_2) 0 4000 t259 t260 _ ?side1 ?side2 A22.out).mono ?_); (case side1 => exact Z9); (case side2 => exact HC1.out); rintro e w25 ⟨rfl, hb⟩; refine ⟨_, rfl, ?_⟩; replace HO_7 := roB HO_7 hb; replace HO_8 := roB HO_8 hb; replace BK249 := bkB BK249 hb; replace HB := hbS Z10 hb; (try clear hb)) | ((with_reducible refine gate_builtin (b := .append) (xs := #[.tmp 37, .tmp 39]) rfl ?_); at_builtin; refine Kd.R_append (Kd.int .i64) (w0 := w) w.heap.size rfl (.tmp 37) (.tmp 39) 26 3 (.int .i64 0) 8 rfl Try.underlying26 info3 rfl (by decide) (by omega) u8 x8_2 t259 [.int .i64 t259] (fun k_ => some k_ ≠ (.slice (some ad258) t252.length co18 : Value).ownBlock) (fun _ => False) rfl rfl ?aP (fun _ hk => hk.elim) ?aF ?aO ?aB ?aS ?aL ?_; (case aP => exact rfl); (case aB => exact Z10); (case aF => exact (fun k_ hk => Kd.fresh' (Kd.R_lt Z12) k_ hk)); (case aO => exact Z60); (case aS => exact (below_size Z10)); (case aL => have := LMc23.out; omega); intro v262 w26 ho hb hg hat; rw [← Ny261.out] at ho; replace HO_7 := Aside0.mk (Kd.R_after (ok := (fun _ => True)) (by (with_reducible repeat (first | apply Kd.R_alloc | apply Kd.R_drewN | apply Kd.R_drew)); exact Kd.R_mono HO_7.out (fun _ hk => ⟨trivial, hk⟩)) hg hat); replace BK249 := Aside0.mk (blk_grown (g := gb249) (o := .cells #[.int .i64 a0_0, .int .i64 a0_1, .int .i64 a0_2, .int .i64 a0_3, .int .i64 a0_4] 29 (0, 0)) Z42 hg (Kd.R_ne HO_8.out BK249.out (by decide))); replace HB := Aside0.mk (hb); have HO263 := Aside0.mk (ho); clear HO_8; clear ho hb hg hat))
          go_roundg k2
          case measure => have := HJ2.out; have := HK2.out; omega
          case rel => exact ⟨(y261), (wrap64 (x26_2 + 1)), Z6, H', ⟨by have := HJ2.out; have := HK2.out; omega⟩, ⟨Z64⟩, ⟨by (with_reducible repeat (first | apply Kd.R_alloc | apply Kd.R_drewN | apply Kd.R_drew)); exact HO263.out⟩, ⟨Z42⟩, ⟨Z10⟩⟩
         ·rw [if_neg c23] at H
          exact absurd H (by simp)
        ·rw [if_neg c21] at H
         exact absurd H (by simp)
       ·rw [if_neg c20] at H
        exact absurd H (by simp)
      ·rw [if_neg c19] at H
       have c19b0 : decide (x26_2 < (t252.length : Int)) = false := decide_eq_false c19
       clear c19
       simp only [Option.some.injEq, Prod.mk.injEq] at H
       obtain ⟨rfl, rfl, rfl⟩ := H
       go_wp2
       go_ret3
       exact ⟨_, _, Z4, Z12, Z60, Z10⟩
end Go.Proofs.Ytffgmmfkiecheaa.H
