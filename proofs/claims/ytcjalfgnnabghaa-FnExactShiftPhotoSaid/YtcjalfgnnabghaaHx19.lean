-- Written by wip/hook.py of this repo: the kit's print over all of the seat's laws, with texts of this repo for what it does not take. Lean checks it.
import Derived.Test.YtcjalfgnnabghaaHx0
import Derived.Test.YtcjalfgnnabghaaHx2
import Derived.Test.YtcjalfgnnabghaaHx3
import Derived.Test.YtcjalfgnnabghaaHx4
import Derived.Test.YtcjalfgnnabghaaHx13
import Derived.Test.YtcjalfgnnabghaaWWords
namespace Go.Proofs.Ytcjalfgnnabghaa.H
open Go.RowKit Go.Proofs.YtcjalfgnnabghaaW.PrintWords
set_option linter.unusedVariables false
set_option linter.unusedSimpArgs false

/-! ### impl_ShiftPhoto: function 23, by hand -/

def ofShift (w h : Int) (l : List Int) (d a c : Int) (x y : Int) : Option Int := (impl_Chart_hasPlace.f w h l (wrap64 (x + d)) (wrap64 (y + a))).bind fun b => if b = true then impl_Chart_at.f w h l (wrap64 (x + d)) (wrap64 (y + a)) else some c
set_option maxHeartbeats 4000000 in
set_option maxRecDepth 100000 in
theorem shiftPhoto_1 (b0 b1 b2 b3 : Nat) (a0_0 a0_1 : Int) (A0_2 : Option Addr) (c0_2 : Nat) (l0_2 : List Int) (a1 a2 a3 x y r : Int) (W : World) (hr0_2 : Kd.C (Kd.int .i64) W A0_2 l0_2.length l0_2) (hc0_2 : l0_2.length ≤ c0_2)
  (hz : W.cell? ⟨b0, 0, none⟩ = some (.int .i64 a0_0) ∧ W.cell? ⟨b0, 1, none⟩ = some (.int .i64 a0_1) ∧ W.cell? ⟨b0, 2, none⟩ = some (.slice A0_2 l0_2.length c0_2) ∧ W.cell? ⟨b1, 0, none⟩ = some (.int .i64 a1) ∧ W.cell? ⟨b2, 0, none⟩ = some (.int .i64 a2) ∧ W.cell? ⟨b3, 0, none⟩ = some (.int .i64 a3)) (hb0 : b0 < W.heap.size) (hb1 : b1 < W.heap.size) (hb2 : b2 < W.heap.size) (hb3 : b3 < W.heap.size) (h : (ofShift a0_0 a0_1 l0_2 a1 a2 a3) x y = some r) :
  Calls Try.prog 69 #[.int .i64 x, .int .i64 y, .pointer (some ⟨b0, 0, none⟩), .pointer (some ⟨b1, 0, none⟩), .pointer (some ⟨b2, 0, none⟩), .pointer (some ⟨b3, 0, none⟩)] W fun e w' => e = .returned (.int .i64 r) ∧ Below W.heap.size W w' := by
 have hu28 := Try.underlying28
 unfold ofShift at h
 obtain ⟨b, hb, h⟩ := Option.bind_eq_some_iff.mp h
 have HA := Aside0.mk (impl_Chart_hasPlace.calls a0_0 a0_1 A0_2 c0_2 l0_2 (wrap64 (x + a1)) (wrap64 (y + a2)) b W hr0_2 hc0_2 hb)
 have CELLS : Aside0 (∀ W', Below W.heap.size W W' → W'.cell? ⟨b0, 0, none⟩ = some (.int .i64 a0_0) ∧ W'.cell? ⟨b0, 1, none⟩ = some (.int .i64 a0_1) ∧ W'.cell? ⟨b0, 2, none⟩ = some (.slice A0_2 l0_2.length c0_2) ∧ W'.cell? ⟨b1, 0, none⟩ = some (.int .i64 a1) ∧ W'.cell? ⟨b2, 0, none⟩ = some (.int .i64 a2) ∧ W'.cell? ⟨b3, 0, none⟩ = some (.int .i64 a3)) := by
  obtain ⟨y0, y1, y2, y3, y4, y5⟩ := hz
  exact ⟨fun W' hW => ⟨(hW.cell (p := ⟨b0, 0, none⟩) hb0).trans y0, (hW.cell (p := ⟨b0, 1, none⟩) hb0).trans y1, (hW.cell (p := ⟨b0, 2, none⟩) hb0).trans y2, (hW.cell (p := ⟨b1, 0, none⟩) hb1).trans y3, (hW.cell (p := ⟨b2, 0, none⟩) hb2).trans y4, (hW.cell (p := ⟨b3, 0, none⟩) hb3).trans y5⟩⟩
 clear hz hb0 hb1 hb2 hb3 hb
 cases b with
 | false =>
  rw [if_neg (by decide)] at h
  obtain rfl := Option.some.inj h
  clear h hr0_2 hc0_2
  go_enter Try.func69, Try.ntmps69
  obtain ⟨z0, z1, z2, z3, z4, z5⟩ := CELLS.out _ (Below.refl _ _)
  go_wp2_with fail
  refine HA.out.mono ?_
  rintro e w1 ⟨rfl, hb'⟩
  clear z0 z1 z2 z3 z4 z5
  obtain ⟨z0, z1, z2, z3, z4, z5⟩ := CELLS.out _ hb'
  have HB1 := Aside0.mk hb'
  clear hb'
  go_wp2
  go_ret
  exact ⟨by first | rfl | (simp; done), HB1.out⟩
 | true =>
  rw [if_pos rfl] at h
  have HG : Aside0 (∀ W', Below W.heap.size W W' → _) := ⟨fun W' hW => impl_Chart_at.calls a0_0 a0_1 A0_2 c0_2 l0_2 (wrap64 (x + a1)) (wrap64 (y + a2)) r W' (Kd.C_below hr0_2 hW) hc0_2 h⟩
  clear h hr0_2 hc0_2
  go_enter Try.func69, Try.ntmps69
  obtain ⟨z0, z1, z2, z3, z4, z5⟩ := CELLS.out _ (Below.refl _ _)
  go_wp2_with fail
  refine HA.out.mono ?_
  rintro e w1 ⟨rfl, hb'⟩
  clear z0 z1 z2 z3 z4 z5
  obtain ⟨z0, z1, z2, z3, z4, z5⟩ := CELLS.out _ hb'
  have HB1 := Aside0.mk hb'
  clear hb'
  go_wp2_with fail
  refine (HG.out _ HB1.out).mono ?_
  rintro e w2 ⟨rfl, hb'⟩
  go_wp2
  go_ret
  exact ⟨by first | rfl | (simp; done), below_step HB1.out hb'⟩
def impl_ShiftPhoto.f (k : Nat) (a0_0 : Int) (a0_1 : Int) (l0_2 : List Int) (a1 : Int) (a2 : Int) (a3 : Int) : Option (Int × Int × List Int × Bool) := (impl_IsChart.f a0_0 a0_1 l0_2).bind fun b0 => if b0 = true then (impl_isShift.f a1 a2).bind fun b1 => if b1 = true then (impl_isColor.f a3).bind fun b2 => if b2 = true then (impl_makeChart.f (ofShift a0_0 a0_1 l0_2 a1 a2 a3) k a0_0 a0_1).bind fun r => if r.1 = a0_0 ∧ r.2.1 = a0_1 then some (r.1, r.2.1, r.2.2, true) else none else some (0, 0, [], false) else some (0, 0, [], false) else some (0, 0, [], false)
set_option maxHeartbeats 8000000 in
set_option maxRecDepth 100000 in
theorem impl_ShiftPhoto.calls (k : Nat) (a0_0 : Int) (a0_1 : Int) (A0_2 : Option Addr) (c0_2 : Nat) (l0_2 : List Int) (a1 : Int) (a2 : Int) (a3 : Int) (r1 : Int) (r2 : Int) (r3 : List Int) (r4 : Bool) (w : World) (hr0_2 : Kd.C (Kd.int .i64) w A0_2 l0_2.length l0_2) (hc0_2 : l0_2.length ≤ c0_2) (h : impl_ShiftPhoto.f k a0_0 a0_1 l0_2 a1 a2 a3 = some (r1, r2, r3, r4)) :
  Calls Try.prog 23 #[.agg #[.int .i64 a0_0, .int .i64 a0_1, .slice A0_2 l0_2.length c0_2], .int .i64 a1, .int .i64 a2, .int .i64 a3] w fun e w' => ∃ v2_ : Value, e = .returned (.tuple #[.agg #[.int .i64 r1, .int .i64 r2, v2_], .bool r4]) ∧ Kd.R (Kd.int .i64) 3 w' w.heap.size (fun _ => True) v2_ r3 ∧ Below w.heap.size w w' := by
 have hu28 := Try.underlying28
 have hmf : ∀ (fn : Fn) (first cap : Array Value) (w : World), (Instr.makeFunc fn first cap).run Try.prog w = .ok (.func fn first cap) w := fun _ _ _ _ => rfl
 have hB0 : Below w.heap.size w (((((w.alloc (.cells #[.int .i64 a0_0, .int .i64 a0_1, .slice A0_2 l0_2.length c0_2] 28)).alloc (.cells #[.int .i64 a1] 3)).alloc (.cells #[.int .i64 a2] 3)).alloc (.cells #[.int .i64 a3] 3)).alloc (.cells #[.int .i64 0, .int .i64 0, .slice none 0 0] 28)) := below_alloc (below_alloc (below_alloc (below_alloc (below_alloc (Below.refl _ _) _) _) _) _) _
 have HB0 := Aside0.mk hB0
 have HV0 := Aside0.mk (Below.refl (w.heap.size + 5) (((((w.alloc (.cells #[.int .i64 a0_0, .int .i64 a0_1, .slice A0_2 l0_2.length c0_2] 28)).alloc (.cells #[.int .i64 a1] 3)).alloc (.cells #[.int .i64 a2] 3)).alloc (.cells #[.int .i64 a3] 3)).alloc (.cells #[.int .i64 0, .int .i64 0, .slice none 0 0] 28)))
 have hs1 : (w.alloc (.cells #[.int .i64 a0_0, .int .i64 a0_1, .slice A0_2 l0_2.length c0_2] 28)).heap.size = w.heap.size + 1 := by simp
 have hs2 : ((w.alloc (.cells #[.int .i64 a0_0, .int .i64 a0_1, .slice A0_2 l0_2.length c0_2] 28)).alloc (.cells #[.int .i64 a1] 3)).heap.size = w.heap.size + 2 := by simp
 have hs3 : (((w.alloc (.cells #[.int .i64 a0_0, .int .i64 a0_1, .slice A0_2 l0_2.length c0_2] 28)).alloc (.cells #[.int .i64 a1] 3)).alloc (.cells #[.int .i64 a2] 3)).heap.size = w.heap.size + 3 := by simp
 have hs4 : ((((w.alloc (.cells #[.int .i64 a0_0, .int .i64 a0_1, .slice A0_2 l0_2.length c0_2] 28)).alloc (.cells #[.int .i64 a1] 3)).alloc (.cells #[.int .i64 a2] 3)).alloc (.cells #[.int .i64 a3] 3)).heap.size = w.heap.size + 4 := by simp
 have hk0 := heap_alloc_new w (.cells #[.int .i64 a0_0, .int .i64 a0_1, .slice A0_2 l0_2.length c0_2] 28)
 have hk1 := heap_alloc_new (w.alloc (.cells #[.int .i64 a0_0, .int .i64 a0_1, .slice A0_2 l0_2.length c0_2] 28)) (.cells #[.int .i64 a1] 3)
 have hk2 := heap_alloc_new ((w.alloc (.cells #[.int .i64 a0_0, .int .i64 a0_1, .slice A0_2 l0_2.length c0_2] 28)).alloc (.cells #[.int .i64 a1] 3)) (.cells #[.int .i64 a2] 3)
 have hk3 := heap_alloc_new (((w.alloc (.cells #[.int .i64 a0_0, .int .i64 a0_1, .slice A0_2 l0_2.length c0_2] 28)).alloc (.cells #[.int .i64 a1] 3)).alloc (.cells #[.int .i64 a2] 3)) (.cells #[.int .i64 a3] 3)
 have hk4 := heap_alloc_new ((((w.alloc (.cells #[.int .i64 a0_0, .int .i64 a0_1, .slice A0_2 l0_2.length c0_2] 28)).alloc (.cells #[.int .i64 a1] 3)).alloc (.cells #[.int .i64 a2] 3)).alloc (.cells #[.int .i64 a3] 3)) (.cells #[.int .i64 0, .int .i64 0, .slice none 0 0] 28)
 rw [hs1] at hk1
 rw [hs2] at hk2
 rw [hs3] at hk3
 rw [hs4] at hk4
 have BK0 : Aside0 ((((((w.alloc (.cells #[.int .i64 a0_0, .int .i64 a0_1, .slice A0_2 l0_2.length c0_2] 28)).alloc (.cells #[.int .i64 a1] 3)).alloc (.cells #[.int .i64 a2] 3)).alloc (.cells #[.int .i64 a3] 3)).alloc (.cells #[.int .i64 0, .int .i64 0, .slice none 0 0] 28)).heap[w.heap.size + 4]? = some (.cells #[.int .i64 0, .int .i64 0, .slice none 0 0] 28 (0, 0))) := ⟨hk4⟩
 have hb0 : Below (w.alloc (.cells #[.int .i64 a0_0, .int .i64 a0_1, .slice A0_2 l0_2.length c0_2] 28)).heap.size (w.alloc (.cells #[.int .i64 a0_0, .int .i64 a0_1, .slice A0_2 l0_2.length c0_2] 28)) (((((w.alloc (.cells #[.int .i64 a0_0, .int .i64 a0_1, .slice A0_2 l0_2.length c0_2] 28)).alloc (.cells #[.int .i64 a1] 3)).alloc (.cells #[.int .i64 a2] 3)).alloc (.cells #[.int .i64 a3] 3)).alloc (.cells #[.int .i64 0, .int .i64 0, .slice none 0 0] 28)) := below_alloc (below_alloc (below_alloc (below_alloc (Below.refl _ _) _) _) _) _
 have hb1 : Below ((w.alloc (.cells #[.int .i64 a0_0, .int .i64 a0_1, .slice A0_2 l0_2.length c0_2] 28)).alloc (.cells #[.int .i64 a1] 3)).heap.size ((w.alloc (.cells #[.int .i64 a0_0, .int .i64 a0_1, .slice A0_2 l0_2.length c0_2] 28)).alloc (.cells #[.int .i64 a1] 3)) (((((w.alloc (.cells #[.int .i64 a0_0, .int .i64 a0_1, .slice A0_2 l0_2.length c0_2] 28)).alloc (.cells #[.int .i64 a1] 3)).alloc (.cells #[.int .i64 a2] 3)).alloc (.cells #[.int .i64 a3] 3)).alloc (.cells #[.int .i64 0, .int .i64 0, .slice none 0 0] 28)) := below_alloc (below_alloc (below_alloc (Below.refl _ _) _) _) _
 have hb2 : Below (((w.alloc (.cells #[.int .i64 a0_0, .int .i64 a0_1, .slice A0_2 l0_2.length c0_2] 28)).alloc (.cells #[.int .i64 a1] 3)).alloc (.cells #[.int .i64 a2] 3)).heap.size (((w.alloc (.cells #[.int .i64 a0_0, .int .i64 a0_1, .slice A0_2 l0_2.length c0_2] 28)).alloc (.cells #[.int .i64 a1] 3)).alloc (.cells #[.int .i64 a2] 3)) (((((w.alloc (.cells #[.int .i64 a0_0, .int .i64 a0_1, .slice A0_2 l0_2.length c0_2] 28)).alloc (.cells #[.int .i64 a1] 3)).alloc (.cells #[.int .i64 a2] 3)).alloc (.cells #[.int .i64 a3] 3)).alloc (.cells #[.int .i64 0, .int .i64 0, .slice none 0 0] 28)) := below_alloc (below_alloc (Below.refl _ _) _) _
 have hb3 : Below ((((w.alloc (.cells #[.int .i64 a0_0, .int .i64 a0_1, .slice A0_2 l0_2.length c0_2] 28)).alloc (.cells #[.int .i64 a1] 3)).alloc (.cells #[.int .i64 a2] 3)).alloc (.cells #[.int .i64 a3] 3)).heap.size ((((w.alloc (.cells #[.int .i64 a0_0, .int .i64 a0_1, .slice A0_2 l0_2.length c0_2] 28)).alloc (.cells #[.int .i64 a1] 3)).alloc (.cells #[.int .i64 a2] 3)).alloc (.cells #[.int .i64 a3] 3)) (((((w.alloc (.cells #[.int .i64 a0_0, .int .i64 a0_1, .slice A0_2 l0_2.length c0_2] 28)).alloc (.cells #[.int .i64 a1] 3)).alloc (.cells #[.int .i64 a2] 3)).alloc (.cells #[.int .i64 a3] 3)).alloc (.cells #[.int .i64 0, .int .i64 0, .slice none 0 0] 28)) := below_alloc (Below.refl _ _) _
 have CELLS : Aside0 (∀ W, Below (w.heap.size + 5) (((((w.alloc (.cells #[.int .i64 a0_0, .int .i64 a0_1, .slice A0_2 l0_2.length c0_2] 28)).alloc (.cells #[.int .i64 a1] 3)).alloc (.cells #[.int .i64 a2] 3)).alloc (.cells #[.int .i64 a3] 3)).alloc (.cells #[.int .i64 0, .int .i64 0, .slice none 0 0] 28)) W → W.cell? ⟨w.heap.size, 0, none⟩ = some (.int .i64 a0_0) ∧ W.cell? ⟨w.heap.size, 1, none⟩ = some (.int .i64 a0_1) ∧ W.cell? ⟨w.heap.size, 2, none⟩ = some (.slice A0_2 l0_2.length c0_2) ∧ W.cell? ⟨w.heap.size + 1, 0, none⟩ = some (.int .i64 a1) ∧ W.cell? ⟨w.heap.size + 2, 0, none⟩ = some (.int .i64 a2) ∧ W.cell? ⟨w.heap.size + 3, 0, none⟩ = some (.int .i64 a3)) := ⟨fun W hb => ⟨(hb.cell (p := ⟨w.heap.size, 0, none⟩) (show w.heap.size < w.heap.size + 5 by omega)).trans ((hb0.cell (p := ⟨w.heap.size, 0, none⟩) (by simp)).trans ((blk_cell hk0 0).trans rfl)), (hb.cell (p := ⟨w.heap.size, 1, none⟩) (show w.heap.size < w.heap.size + 5 by omega)).trans ((hb0.cell (p := ⟨w.heap.size, 1, none⟩) (by simp)).trans ((blk_cell hk0 1).trans rfl)), (hb.cell (p := ⟨w.heap.size, 2, none⟩) (show w.heap.size < w.heap.size + 5 by omega)).trans ((hb0.cell (p := ⟨w.heap.size, 2, none⟩) (by simp)).trans ((blk_cell hk0 2).trans rfl)), (hb.cell (p := ⟨w.heap.size + 1, 0, none⟩) (show w.heap.size + 1 < w.heap.size + 5 by omega)).trans ((hb1.cell (p := ⟨w.heap.size + 1, 0, none⟩) (by simp)).trans ((blk_cell hk1 0).trans rfl)), (hb.cell (p := ⟨w.heap.size + 2, 0, none⟩) (show w.heap.size + 2 < w.heap.size + 5 by omega)).trans ((hb2.cell (p := ⟨w.heap.size + 2, 0, none⟩) (by simp)).trans ((blk_cell hk2 0).trans rfl)), (hb.cell (p := ⟨w.heap.size + 3, 0, none⟩) (show w.heap.size + 3 < w.heap.size + 5 by omega)).trans ((hb3.cell (p := ⟨w.heap.size + 3, 0, none⟩) (by simp)).trans ((blk_cell hk3 0).trans rfl))⟩⟩
 clear hk0 hk1 hk2 hk3 hk4 hb0 hb1 hb2 hb3 hs1 hs2 hs3 hs4
 obtain ⟨b0, hb0, h⟩ := Option.bind_eq_some_iff.mp h
 have HA0 : Aside0 (∀ W, Below w.heap.size w W → _) := ⟨fun W hb => impl_IsChart.calls a0_0 a0_1 A0_2 c0_2 l0_2 b0 W (Kd.C_below hr0_2 hb) hc0_2 hb0⟩
 clear hB0
 cases b0 with
 | false =>
  simp only [Bool.false_eq_true, if_false, Option.some.injEq, Prod.mk.injEq] at h
  obtain ⟨rfl, rfl, rfl, rfl⟩ := h
  clear hr0_2 hc0_2 hb0
  go_enter Try.func23, Try.ntmps23
  obtain ⟨z0, z1, z2, z3, z4, z5⟩ := CELLS.out _ HV0.out
  go_wp2_with fail
  refine (HA0.out _ HB0.out).mono ?_
  rintro e w1 ⟨rfl, hb'⟩
  have HB1 := Aside0.mk (below_step HB0.out hb')
  have HV1 := Aside0.mk (show Below (w.heap.size + 5) (((((w.alloc (.cells #[.int .i64 a0_0, .int .i64 a0_1, .slice A0_2 l0_2.length c0_2] 28)).alloc (.cells #[.int .i64 a1] 3)).alloc (.cells #[.int .i64 a2] 3)).alloc (.cells #[.int .i64 a3] 3)).alloc (.cells #[.int .i64 0, .int .i64 0, .slice none 0 0] 28)) w1 from HV0.out.trans (hb'.mono (by simp)))
  have BK1 := Aside0.mk (blk_below (g := (w.heap.size + 4)) (o := .cells #[.int .i64 0, .int .i64 0, .slice none 0 0] 28 (0, 0)) BK0.out hb')
  clear hb'
  clear z0 z1 z2 z3 z4 z5
  obtain ⟨z0, z1, z2, z3, z4, z5⟩ := CELLS.out _ HV1.out
  have hcz_0 : w1.cell? ⟨w.heap.size + 4, 0, none⟩ = some (.int .i64 0) := (blk_cell BK1.out 0).trans rfl
  have hfz_0 := blk_frozen BK1.out 0
  have hcz_1 : w1.cell? ⟨w.heap.size + 4, 1, none⟩ = some (.int .i64 0) := (blk_cell BK1.out 1).trans rfl
  have hfz_1 := blk_frozen BK1.out 1
  have hcz_2 : w1.cell? ⟨w.heap.size + 4, 2, none⟩ = some (.slice none 0 0) := (blk_cell BK1.out 2).trans rfl
  have hfz_2 := blk_frozen BK1.out 2
  go_wp2
  refine bodyPost_ret (results_ct rfl _ _ (w.heap.size + 4) 28 #[.int .i64 0, .int .i64 0, .slice none 0 0] (0, 0) _ rfl (by refine blk_put (cs := #[.int .i64 0, .int .i64 0, .slice none 0 0]) ?_ 2 _ rfl; refine blk_put (cs := #[.int .i64 0, .int .i64 0, .slice none 0 0]) ?_ 1 _ rfl; refine blk_put (cs := #[.int .i64 0, .int .i64 0, .slice none 0 0]) ?_ 0 _ rfl; exact BK1.out) Try.underlying28 rfl (by kernel_rfl)) rfl ?_
  exact ⟨_, by first | rfl | (simp; done), Kd.R_nil _ _ _ _ _, below_set (below_set (below_set HB1.out (Nat.le_add_right _ 4)) (Nat.le_add_right _ 4)) (Nat.le_add_right _ 4)⟩
 | true =>
  rw [if_pos rfl] at h
  obtain ⟨b1, hb1, h⟩ := Option.bind_eq_some_iff.mp h
  have HA1 : Aside0 (∀ W, Below w.heap.size w W → Calls Try.prog 67 #[.int .i64 a1, .int .i64 a2] W fun e w' => e = .returned (.bool b1) ∧ Below W.heap.size W w') := ⟨fun W hb => (impl_isShift.calls a1 a2 b1 W hb1).mono fun e w' ⟨he, hd⟩ => ⟨he, hd.below⟩⟩
  cases b1 with
  | false =>
   simp only [Bool.false_eq_true, if_false, Option.some.injEq, Prod.mk.injEq] at h
   obtain ⟨rfl, rfl, rfl, rfl⟩ := h
   clear hr0_2 hc0_2 hb0 hb1
   go_enter Try.func23, Try.ntmps23
   obtain ⟨z0, z1, z2, z3, z4, z5⟩ := CELLS.out _ HV0.out
   go_wp2_with fail
   refine (HA0.out _ HB0.out).mono ?_
   rintro e w1 ⟨rfl, hb'⟩
   have HB1 := Aside0.mk (below_step HB0.out hb')
   have HV1 := Aside0.mk (show Below (w.heap.size + 5) (((((w.alloc (.cells #[.int .i64 a0_0, .int .i64 a0_1, .slice A0_2 l0_2.length c0_2] 28)).alloc (.cells #[.int .i64 a1] 3)).alloc (.cells #[.int .i64 a2] 3)).alloc (.cells #[.int .i64 a3] 3)).alloc (.cells #[.int .i64 0, .int .i64 0, .slice none 0 0] 28)) w1 from HV0.out.trans (hb'.mono (by simp)))
   have BK1 := Aside0.mk (blk_below (g := (w.heap.size + 4)) (o := .cells #[.int .i64 0, .int .i64 0, .slice none 0 0] 28 (0, 0)) BK0.out hb')
   clear hb'
   clear z0 z1 z2 z3 z4 z5
   obtain ⟨z0, z1, z2, z3, z4, z5⟩ := CELLS.out _ HV1.out
   go_wp2_with fail
   refine (HA1.out _ HB1.out).mono ?_
   rintro e w2 ⟨rfl, hb'⟩
   have HB2 := Aside0.mk (below_step HB1.out hb')
   have HV2 := Aside0.mk (show Below (w.heap.size + 5) (((((w.alloc (.cells #[.int .i64 a0_0, .int .i64 a0_1, .slice A0_2 l0_2.length c0_2] 28)).alloc (.cells #[.int .i64 a1] 3)).alloc (.cells #[.int .i64 a2] 3)).alloc (.cells #[.int .i64 a3] 3)).alloc (.cells #[.int .i64 0, .int .i64 0, .slice none 0 0] 28)) w2 from HV1.out.trans (hb'.mono (by have := HV1.out.size; simpa using this)))
   have BK2 := Aside0.mk (blk_below (g := (w.heap.size + 4)) (o := .cells #[.int .i64 0, .int .i64 0, .slice none 0 0] 28 (0, 0)) BK1.out hb')
   clear hb'
   clear z0 z1 z2 z3 z4 z5
   obtain ⟨z0, z1, z2, z3, z4, z5⟩ := CELLS.out _ HV2.out
   have hcz_0 : w2.cell? ⟨w.heap.size + 4, 0, none⟩ = some (.int .i64 0) := (blk_cell BK2.out 0).trans rfl
   have hfz_0 := blk_frozen BK2.out 0
   have hcz_1 : w2.cell? ⟨w.heap.size + 4, 1, none⟩ = some (.int .i64 0) := (blk_cell BK2.out 1).trans rfl
   have hfz_1 := blk_frozen BK2.out 1
   have hcz_2 : w2.cell? ⟨w.heap.size + 4, 2, none⟩ = some (.slice none 0 0) := (blk_cell BK2.out 2).trans rfl
   have hfz_2 := blk_frozen BK2.out 2
   go_wp2
   refine bodyPost_ret (results_ct rfl _ _ (w.heap.size + 4) 28 #[.int .i64 0, .int .i64 0, .slice none 0 0] (0, 0) _ rfl (by refine blk_put (cs := #[.int .i64 0, .int .i64 0, .slice none 0 0]) ?_ 2 _ rfl; refine blk_put (cs := #[.int .i64 0, .int .i64 0, .slice none 0 0]) ?_ 1 _ rfl; refine blk_put (cs := #[.int .i64 0, .int .i64 0, .slice none 0 0]) ?_ 0 _ rfl; exact BK2.out) Try.underlying28 rfl (by kernel_rfl)) rfl ?_
   exact ⟨_, by first | rfl | (simp; done), Kd.R_nil _ _ _ _ _, below_set (below_set (below_set HB2.out (Nat.le_add_right _ 4)) (Nat.le_add_right _ 4)) (Nat.le_add_right _ 4)⟩
  | true =>
   rw [if_pos rfl] at h
   obtain ⟨b2, hb2, h⟩ := Option.bind_eq_some_iff.mp h
   have HA2 : Aside0 (∀ W, Below w.heap.size w W → Calls Try.prog 68 #[.int .i64 a3] W fun e w' => e = .returned (.bool b2) ∧ Below W.heap.size W w') := ⟨fun W hb => (impl_isColor.calls a3 b2 W hb2).mono fun e w' ⟨he, hd⟩ => ⟨he, hd.below⟩⟩
   cases b2 with
   | false =>
    simp only [Bool.false_eq_true, if_false, Option.some.injEq, Prod.mk.injEq] at h
    obtain ⟨rfl, rfl, rfl, rfl⟩ := h
    clear hr0_2 hc0_2 hb0 hb1 hb2
    go_enter Try.func23, Try.ntmps23
    obtain ⟨z0, z1, z2, z3, z4, z5⟩ := CELLS.out _ HV0.out
    go_wp2_with fail
    refine (HA0.out _ HB0.out).mono ?_
    rintro e w1 ⟨rfl, hb'⟩
    have HB1 := Aside0.mk (below_step HB0.out hb')
    have HV1 := Aside0.mk (show Below (w.heap.size + 5) (((((w.alloc (.cells #[.int .i64 a0_0, .int .i64 a0_1, .slice A0_2 l0_2.length c0_2] 28)).alloc (.cells #[.int .i64 a1] 3)).alloc (.cells #[.int .i64 a2] 3)).alloc (.cells #[.int .i64 a3] 3)).alloc (.cells #[.int .i64 0, .int .i64 0, .slice none 0 0] 28)) w1 from HV0.out.trans (hb'.mono (by simp)))
    have BK1 := Aside0.mk (blk_below (g := (w.heap.size + 4)) (o := .cells #[.int .i64 0, .int .i64 0, .slice none 0 0] 28 (0, 0)) BK0.out hb')
    clear hb'
    clear z0 z1 z2 z3 z4 z5
    obtain ⟨z0, z1, z2, z3, z4, z5⟩ := CELLS.out _ HV1.out
    go_wp2_with fail
    refine (HA1.out _ HB1.out).mono ?_
    rintro e w2 ⟨rfl, hb'⟩
    have HB2 := Aside0.mk (below_step HB1.out hb')
    have HV2 := Aside0.mk (show Below (w.heap.size + 5) (((((w.alloc (.cells #[.int .i64 a0_0, .int .i64 a0_1, .slice A0_2 l0_2.length c0_2] 28)).alloc (.cells #[.int .i64 a1] 3)).alloc (.cells #[.int .i64 a2] 3)).alloc (.cells #[.int .i64 a3] 3)).alloc (.cells #[.int .i64 0, .int .i64 0, .slice none 0 0] 28)) w2 from HV1.out.trans (hb'.mono (by have := HV1.out.size; simpa using this)))
    have BK2 := Aside0.mk (blk_below (g := (w.heap.size + 4)) (o := .cells #[.int .i64 0, .int .i64 0, .slice none 0 0] 28 (0, 0)) BK1.out hb')
    clear hb'
    clear z0 z1 z2 z3 z4 z5
    obtain ⟨z0, z1, z2, z3, z4, z5⟩ := CELLS.out _ HV2.out
    go_wp2_with fail
    refine (HA2.out _ HB2.out).mono ?_
    rintro e w3 ⟨rfl, hb'⟩
    have HB3 := Aside0.mk (below_step HB2.out hb')
    have HV3 := Aside0.mk (show Below (w.heap.size + 5) (((((w.alloc (.cells #[.int .i64 a0_0, .int .i64 a0_1, .slice A0_2 l0_2.length c0_2] 28)).alloc (.cells #[.int .i64 a1] 3)).alloc (.cells #[.int .i64 a2] 3)).alloc (.cells #[.int .i64 a3] 3)).alloc (.cells #[.int .i64 0, .int .i64 0, .slice none 0 0] 28)) w3 from HV2.out.trans (hb'.mono (by have := HV2.out.size; simpa using this)))
    have BK3 := Aside0.mk (blk_below (g := (w.heap.size + 4)) (o := .cells #[.int .i64 0, .int .i64 0, .slice none 0 0] 28 (0, 0)) BK2.out hb')
    clear hb'
    clear z0 z1 z2 z3 z4 z5
    obtain ⟨z0, z1, z2, z3, z4, z5⟩ := CELLS.out _ HV3.out
    have hcz_0 : w3.cell? ⟨w.heap.size + 4, 0, none⟩ = some (.int .i64 0) := (blk_cell BK3.out 0).trans rfl
    have hfz_0 := blk_frozen BK3.out 0
    have hcz_1 : w3.cell? ⟨w.heap.size + 4, 1, none⟩ = some (.int .i64 0) := (blk_cell BK3.out 1).trans rfl
    have hfz_1 := blk_frozen BK3.out 1
    have hcz_2 : w3.cell? ⟨w.heap.size + 4, 2, none⟩ = some (.slice none 0 0) := (blk_cell BK3.out 2).trans rfl
    have hfz_2 := blk_frozen BK3.out 2
    go_wp2
    refine bodyPost_ret (results_ct rfl _ _ (w.heap.size + 4) 28 #[.int .i64 0, .int .i64 0, .slice none 0 0] (0, 0) _ rfl (by refine blk_put (cs := #[.int .i64 0, .int .i64 0, .slice none 0 0]) ?_ 2 _ rfl; refine blk_put (cs := #[.int .i64 0, .int .i64 0, .slice none 0 0]) ?_ 1 _ rfl; refine blk_put (cs := #[.int .i64 0, .int .i64 0, .slice none 0 0]) ?_ 0 _ rfl; exact BK3.out) Try.underlying28 rfl (by kernel_rfl)) rfl ?_
    exact ⟨_, by first | rfl | (simp; done), Kd.R_nil _ _ _ _ _, below_set (below_set (below_set HB3.out (Nat.le_add_right _ 4)) (Nat.le_add_right _ 4)) (Nat.le_add_right _ 4)⟩
   | true =>
    rw [if_pos rfl] at h
    obtain ⟨⟨m1, m2, l⟩, hl, h⟩ := Option.bind_eq_some_iff.mp h
    by_cases hm : m1 = a0_0 ∧ m2 = a0_1
    case neg => rw [if_neg hm] at h; cases h
    rw [if_pos hm] at h
    dsimp only at h
    rw [hm.1, hm.2] at h
    rw [hm.1, hm.2] at hl
    clear hm
    simp only [Option.some.injEq, Prod.mk.injEq] at h
    obtain ⟨rfl, rfl, rfl, rfl⟩ := h
    have HM : Aside0 (∀ W, Below w.heap.size w W → Below (w.heap.size + 5) (((((w.alloc (.cells #[.int .i64 a0_0, .int .i64 a0_1, .slice A0_2 l0_2.length c0_2] 28)).alloc (.cells #[.int .i64 a1] 3)).alloc (.cells #[.int .i64 a2] 3)).alloc (.cells #[.int .i64 a3] 3)).alloc (.cells #[.int .i64 0, .int .i64 0, .slice none 0 0] 28)) W → _) := ⟨fun W hb hV => impl_makeChart.calls (ofShift a0_0 a0_1 l0_2 a1 a2 a3) 69 #[.pointer (some ⟨w.heap.size, 0, none⟩), .pointer (some ⟨w.heap.size + 1, 0, none⟩), .pointer (some ⟨w.heap.size + 2, 0, none⟩), .pointer (some ⟨w.heap.size + 3, 0, none⟩)] k a0_0 a0_1 a0_0 a0_1 l W (enters_of Try.func69 (by kernel_rfl) rfl)
     (fun W2 x y r hb2 hr => shiftPhoto_1 w.heap.size (w.heap.size + 1) (w.heap.size + 2) (w.heap.size + 3) a0_0 a0_1 A0_2 c0_2 l0_2 a1 a2 a3 x y r W2 (Kd.C_below (Kd.C_below hr0_2 hb) hb2) hc0_2
      (CELLS.out _ (hV.trans (hb2.mono (by have := hV.size; simpa using this)))) (by have := hV.size; have := hb2.size; simp at *; omega) (by have := hV.size; have := hb2.size; simp at *; omega) (by have := hV.size; have := hb2.size; simp at *; omega) (by have := hV.size; have := hb2.size; simp at *; omega) hr) hl⟩
    clear hr0_2 hc0_2 hb0 hb1 hb2 hl
    go_enter Try.func23, Try.ntmps23
    obtain ⟨z0, z1, z2, z3, z4, z5⟩ := CELLS.out _ HV0.out
    go_wp2_with fail
    refine (HA0.out _ HB0.out).mono ?_
    rintro e w1 ⟨rfl, hb'⟩
    have HB1 := Aside0.mk (below_step HB0.out hb')
    have HV1 := Aside0.mk (show Below (w.heap.size + 5) (((((w.alloc (.cells #[.int .i64 a0_0, .int .i64 a0_1, .slice A0_2 l0_2.length c0_2] 28)).alloc (.cells #[.int .i64 a1] 3)).alloc (.cells #[.int .i64 a2] 3)).alloc (.cells #[.int .i64 a3] 3)).alloc (.cells #[.int .i64 0, .int .i64 0, .slice none 0 0] 28)) w1 from HV0.out.trans (hb'.mono (by simp)))
    have BK1 := Aside0.mk (blk_below (g := (w.heap.size + 4)) (o := .cells #[.int .i64 0, .int .i64 0, .slice none 0 0] 28 (0, 0)) BK0.out hb')
    clear hb'
    clear z0 z1 z2 z3 z4 z5
    obtain ⟨z0, z1, z2, z3, z4, z5⟩ := CELLS.out _ HV1.out
    go_wp2_with fail
    refine (HA1.out _ HB1.out).mono ?_
    rintro e w2 ⟨rfl, hb'⟩
    have HB2 := Aside0.mk (below_step HB1.out hb')
    have HV2 := Aside0.mk (show Below (w.heap.size + 5) (((((w.alloc (.cells #[.int .i64 a0_0, .int .i64 a0_1, .slice A0_2 l0_2.length c0_2] 28)).alloc (.cells #[.int .i64 a1] 3)).alloc (.cells #[.int .i64 a2] 3)).alloc (.cells #[.int .i64 a3] 3)).alloc (.cells #[.int .i64 0, .int .i64 0, .slice none 0 0] 28)) w2 from HV1.out.trans (hb'.mono (by have := HV1.out.size; simpa using this)))
    have BK2 := Aside0.mk (blk_below (g := (w.heap.size + 4)) (o := .cells #[.int .i64 0, .int .i64 0, .slice none 0 0] 28 (0, 0)) BK1.out hb')
    clear hb'
    clear z0 z1 z2 z3 z4 z5
    obtain ⟨z0, z1, z2, z3, z4, z5⟩ := CELLS.out _ HV2.out
    go_wp2_with fail
    refine (HA2.out _ HB2.out).mono ?_
    rintro e w3 ⟨rfl, hb'⟩
    have HB3 := Aside0.mk (below_step HB2.out hb')
    have HV3 := Aside0.mk (show Below (w.heap.size + 5) (((((w.alloc (.cells #[.int .i64 a0_0, .int .i64 a0_1, .slice A0_2 l0_2.length c0_2] 28)).alloc (.cells #[.int .i64 a1] 3)).alloc (.cells #[.int .i64 a2] 3)).alloc (.cells #[.int .i64 a3] 3)).alloc (.cells #[.int .i64 0, .int .i64 0, .slice none 0 0] 28)) w3 from HV2.out.trans (hb'.mono (by have := HV2.out.size; simpa using this)))
    have BK3 := Aside0.mk (blk_below (g := (w.heap.size + 4)) (o := .cells #[.int .i64 0, .int .i64 0, .slice none 0 0] 28 (0, 0)) BK2.out hb')
    clear hb'
    clear z0 z1 z2 z3 z4 z5
    obtain ⟨z0, z1, z2, z3, z4, z5⟩ := CELLS.out _ HV3.out
    go_wp2_with fail
    refine (HM.out _ HB3.out HV3.out).mono ?_
    rintro e w4 ⟨v2_, rfl, ho, hb'⟩
    obtain ⟨Ao, co, eo⟩ := Kd.R_slice ho
    subst eo
    have HO4 := Aside0.mk (Kd.R_lower ho HB3.out.size)
    clear ho
    have HB4 := Aside0.mk (below_step HB3.out hb')
    have HV4 := Aside0.mk (show Below (w.heap.size + 5) (((((w.alloc (.cells #[.int .i64 a0_0, .int .i64 a0_1, .slice A0_2 l0_2.length c0_2] 28)).alloc (.cells #[.int .i64 a1] 3)).alloc (.cells #[.int .i64 a2] 3)).alloc (.cells #[.int .i64 a3] 3)).alloc (.cells #[.int .i64 0, .int .i64 0, .slice none 0 0] 28)) w4 from HV3.out.trans (hb'.mono (by have := HV3.out.size; simpa using this)))
    have BK4 := Aside0.mk (blk_below (g := (w.heap.size + 4)) (o := .cells #[.int .i64 0, .int .i64 0, .slice none 0 0] 28 (0, 0)) BK3.out hb')
    clear hb'
    clear z0 z1 z2 z3 z4 z5
    have hcz_0 : w4.cell? ⟨w.heap.size + 4, 0, none⟩ = some (.int .i64 0) := (blk_cell BK4.out 0).trans rfl
    have hfz_0 := blk_frozen BK4.out 0
    have hcz_1 : w4.cell? ⟨w.heap.size + 4, 1, none⟩ = some (.int .i64 0) := (blk_cell BK4.out 1).trans rfl
    have hfz_1 := blk_frozen BK4.out 1
    have hcz_2 : w4.cell? ⟨w.heap.size + 4, 2, none⟩ = some (.slice none 0 0) := (blk_cell BK4.out 2).trans rfl
    have hfz_2 := blk_frozen BK4.out 2
    go_wp2
    refine bodyPost_ret (results_ct rfl _ _ (w.heap.size + 4) 28 #[.int .i64 a0_0, .int .i64 a0_1, .slice Ao l.length co] (0, 0) _ rfl (by refine blk_put (cs := #[.int .i64 a0_0, .int .i64 a0_1, .slice none 0 0]) ?_ 2 _ rfl; refine blk_put (cs := #[.int .i64 a0_0, .int .i64 0, .slice none 0 0]) ?_ 1 _ rfl; refine blk_put (cs := #[.int .i64 0, .int .i64 0, .slice none 0 0]) ?_ 0 _ rfl; exact BK4.out) Try.underlying28 rfl (by kernel_rfl)) rfl ?_
    exact ⟨_, by first | rfl | (simp; done), Kd.R_mono (Kd.R_far (p := ⟨(w.heap.size + 4), 2, none⟩) (Kd.R_far (p := ⟨(w.heap.size + 4), 1, none⟩) (Kd.R_far (p := ⟨(w.heap.size + 4), 0, none⟩) (Kd.R_types HO4.out BK4.out (by decide)) (fun _ hk => hk.2) (.int .i64 a0_0)) (fun _ hk => hk.2) (.int .i64 a0_1)) (fun _ hk => hk.2) (.slice Ao l.length co)) (fun _ hk => trivial), below_set (below_set (below_set HB4.out (Nat.le_add_right _ 4)) (Nat.le_add_right _ 4)) (Nat.le_add_right _ 4)⟩


end Go.Proofs.Ytcjalfgnnabghaa.H
