-- by wip/pack.py of this repo
import Derived.Test.YtedjeeicpppplaaDoorZ00Hx0
import Derived.Test.YtedjeeicpppplaaDoorZ00Hx1
import Derived.Test.YtedjeeicpppplaaDoorZ00Hx2
import Derived.Test.YtedjeeicpppplaaDoorZ00Hx4
import Derived.Test.YtedjeeicpppplaaDoorZ00WGuard
import Derived.Test.YtedjeeicpppplaaDoorZ00WLast
import Derived.Test.YtedjeeicpppplaaDoorZ00WMore
import Derived.Test.YtedjeeicpppplaaDoorZ00WRepsOne
import Derived.Test.YtedjeeicpppplaaDoorZ00WTab
import Derived.Test.YtedjeeicpppplaaDoorZ00WWords
import Derived.Test.YtedjeeicpppplaaDoorZ00Short
namespace Go.Proofs.YtedjeeicpppplaaDoor.H
open Go.RowKit Go.Proofs.YtedjeeicpppplaaDoorW.PrintWords Go.Proofs.YtedjeeicpppplaaDoorW.PrintLast Go.Proofs.YtedjeeicpppplaaDoorW.PrintMore
attribute [local go_sem] max2_int min2_int max_two min_two max_three min_three max_four min_four
set_option maxHeartbeats 8000000
set_option maxRecDepth 100000
set_option linter.unusedVariables false
set_option linter.unusedSimpArgs false
def cmpW (a b : Int) : Int := if a < b then -1 else if b < a then 1 else 0
set_option maxHeartbeats 4000000 in
set_option maxRecDepth 100000 in
theorem cmpW_calls (x y : Int) (W : World) : Calls Tryd.prog 27 #[.int .i64 x, .int .i64 y] W fun e w' => e = .returned (.int .i64 (cmpW x y)) ∧ w' = W := by
 have hn : (x != x) = false := by simp
 have hm : (y != y) = false := by simp
 by_cases h1 : x < y
 ·have c0 : decide (x < y) = true := decide_eq_true h1
  have e : cmpW x y = -1 := if_pos h1; rw [e]; clear h1 e
  go_enter Tryd.func27, Tryd.ntmps27
  go_wp2
  go_ret
  exact ⟨rfl, rfl⟩
 ·have c0 : decide (x < y) = false := decide_eq_false h1
  by_cases h2 : y < x
  ·have c1 : decide (y < x) = true := decide_eq_true h2
   have e : cmpW x y = 1 := by unfold cmpW; rw [if_neg h1, if_pos h2]
   rw [e]; clear h1 h2 e
   go_enter Tryd.func27, Tryd.ntmps27
   go_wp2
   go_ret
   exact ⟨rfl, rfl⟩
  ·have c1 : decide (y < x) = false := decide_eq_false h2
   have e : cmpW x y = 0 := by unfold cmpW; rw [if_neg h1, if_neg h2]
   rw [e]; clear h1 h2 e
   go_enter Tryd.func27, Tryd.ntmps27
   go_wp2
   go_ret
   exact ⟨rfl, rfl⟩
def minTo_sh (of : S30 → S30 → Int) (xs : List S30) : Nat → S30
 | 0 => xs.getD 0 z30
 | i + 1 => if of (xs.getD (i + 1) z30) (minTo_sh of xs i) < 0 then xs.getD (i + 1) z30 else minTo_sh of xs i
theorem MinFunc_sh (of : S30 → S30 → Int) (g : Nat) (lb : Array Value) (A : Option Addr) (c : Nat) (xs : List S30) (w : World) (h0 : 0 < xs.length)
  (eg : ∀ args w, (callFunc g args).run Tryd.prog w = .ok (.enter g args) w) (hr : Kd.C k30 w A xs.length xs)
  (hp : ∀ (W : World) (x y : S30), Below w.heap.size w W → Calls Tryd.prog g (#[.agg #[.int .i64 x.f0, .string x.f1, .int .i64 x.f2, .int .i64 x.f3, .int .i64 x.f4], .agg #[.int .i64 y.f0, .string y.f1, .int .i64 y.f2, .int .i64 y.f3, .int .i64 y.f4]] ++ lb) W fun e w' => e = .returned (.int .i64 (of x y)) ∧ Below W.heap.size W w') :
  Calls Tryd.prog 25 #[.slice A xs.length c, .func (.func g) #[] lb] w fun e w' => e = .returned (.agg #[.int .i64 (minTo_sh of xs (xs.length - 1)).f0, .string (minTo_sh of xs (xs.length - 1)).f1, .int .i64 (minTo_sh of xs (xs.length - 1)).f2, .int .i64 (minTo_sh of xs (xs.length - 1)).f3, .int .i64 (minTo_sh of xs (xs.length - 1)).f4]) ∧ Below w.heap.size w w' := by
 have hu_ := Tryd.underlying30; have hlen := Aside0.mk hr.2.1; have HR := Aside0.mk hr; have HP := Aside0.mk hp; have Aa : decide ((xs.length : Int) < 1) = false := decide_eq_false (by omega); have Ab : decide (xs.length < 1) = false := decide_eq_false (by omega); have H0 := Aside0.mk h0; obtain ⟨ad, e0, b0, b1, b2, b3, b4⟩ := at_T30 (Kd.C_below hr (below_alloc (Below.refl _ _) (.cells #[.int .i64 0, .string ⟨#[]⟩, .int .i64 0, .int .i64 0, .int .i64 0] 30))) 0 (by omega) (by omega); subst e0; obtain ⟨X0, hX0⟩ : ∃ X0, X0 = (rd_T30 xs 0) := ⟨_, rfl⟩; rw [← hX0] at b0 b1 b2 b3 b4
 simp only [Int.toNat_zero, Nat.zero_mul] at b0 b1 b2 b3 b4
 have ea : ad.add 0 = ad := rfl; rw [ea] at b0 b1 b2 b3 b4; clear ea; have p0 : 0 < xs.length := h0; have HX0 : Aside0 (X0 = minTo_sh of xs 0) := ⟨hX0⟩; clear hr hp hX0
 go_enter Tryd.func25, Tryd.ntmps25
 go_wp2
 clear b0 b1 b2 b3 b4
 go_loopg [6] xs.length (fun gg s6 wr => ∃ (x : Int) (mv : S30), s6 = .int .i64 x ∧ Aside0 (1 ≤ x ∧ x ≤ (xs.length : Int) ∧ (xs.length : Int) - x ≤ gg) ∧ Aside0 (Below w.heap.size w wr) ∧ Aside0 (wr.heap[w.heap.size + 1]? = some (.cells #[.int .i64 mv.f0, .string mv.f1, .int .i64 mv.f2, .int .i64 mv.f3, .int .i64 mv.f4] 30 (0, 0))) ∧ Aside0 (wr.heap[w.heap.size]? = some (.cells #[.int .i64 0, .string ⟨#[]⟩, .int .i64 0, .int .i64 0, .int .i64 0] 30 (0, 0))) ∧ Aside0 (mv = minTo_sh of xs (x - 1).toNat))
 case atStart => exact ⟨1, X0, rfl, ⟨by omega, by have := H0.out; omega, by omega⟩, ⟨below_alloc (below_alloc (Below.refl _ _) _) _⟩, ⟨by have h := blk_new (w.alloc (.cells #[.int .i64 0, .string ⟨#[]⟩, .int .i64 0, .int .i64 0, .int .i64 0] 30)) (.cells #[.int .i64 X0.f0, .string X0.f1, .int .i64 X0.f2, .int .i64 X0.f3, .int .i64 X0.f4] 30 (0, 0)); rw [show (w.alloc (.cells #[.int .i64 0, .string ⟨#[]⟩, .int .i64 0, .int .i64 0, .int .i64 0] 30)).heap.size = w.heap.size + 1 by simp] at h; exact h⟩, ⟨blk_alloc (blk_new w _) _⟩, HX0⟩
 case round =>
  obtain ⟨x, mv, rfl, HX, BW, BK, BZ, HM⟩ := hrel; have z0 := aM (blk_lt BK.out)
  by_cases hlt : x < (xs.length : Int)
  ·have c0 : decide (x < (xs.length : Int)) = true := decide_eq_true hlt
   have h1 : 0 ≤ x := by have := HX.out; omega
   have HL := Aside0.mk hlt; obtain ⟨X, hX⟩ : ∃ X, X = (rd_T30 xs x) := ⟨_, rfl⟩; have HXX := Aside0.mk hX
   have KEY : Aside0 (∀ W', Below wr.heap.size wr W' → Below wr.heap.size wr W' ∧ W'.cell? (ad.add (x.toNat * 5)) = some (.int .i64 X.f0) ∧ W'.cell? ⟨(ad.add (x.toNat * 5)).block, (ad.add (x.toNat * 5)).off + 1, none⟩ = some (.string X.f1) ∧ W'.cell? ⟨(ad.add (x.toNat * 5)).block, (ad.add (x.toNat * 5)).off + 2, none⟩ = some (.int .i64 X.f2) ∧ W'.cell? ⟨(ad.add (x.toNat * 5)).block, (ad.add (x.toNat * 5)).off + 3, none⟩ = some (.int .i64 X.f3) ∧ W'.cell? ⟨(ad.add (x.toNat * 5)).block, (ad.add (x.toNat * 5)).off + 4, none⟩ = some (.int .i64 X.f4) ∧ W'.cell? ⟨w.heap.size + 1, 0, none⟩ = some (.int .i64 mv.f0) ∧ W'.cell? ⟨w.heap.size + 1, 1, none⟩ = some (.string mv.f1) ∧ W'.cell? ⟨w.heap.size + 1, 2, none⟩ = some (.int .i64 mv.f2) ∧ W'.cell? ⟨w.heap.size + 1, 3, none⟩ = some (.int .i64 mv.f3) ∧ W'.cell? ⟨w.heap.size + 1, 4, none⟩ = some (.int .i64 mv.f4)) := ⟨fun W' h => by
    obtain ⟨a1, e1, d0, d1, d2, d3, d4⟩ := at_T30 (Kd.C_below (Kd.C_below HR.out BW.out) h) x h1 hlt; obtain rfl := Option.some.inj e1; rw [← hX] at d0 d1 d2 d3 d4; have hb := blk_below BK.out h
    exact ⟨h, d0, d1, d2, d3, d4, (blk_cell hb 0).trans rfl, (blk_cell hb 1).trans rfl, (blk_cell hb 2).trans rfl, (blk_cell hb 3).trans rfl, (blk_cell hb 4).trans rfl⟩⟩
   have hw1 : wrap64 (x + 1) = x + 1 := by have := HX.out; have := hlen.out; unfold wrap64; omega
   have q0 := eq_true h1; have q1 := eq_true hlt
   have HS : Aside0 (minTo_sh of xs (x + 1 - 1).toNat = if of X mv < 0 then X else mv) := ⟨by
    have e : (x + 1 - 1).toNat = (x - 1).toNat + 1 := by have := HX.out; omega
    have e2 : xs.getD ((x - 1).toNat + 1) z30 = X := by rw [hX, show (x - 1).toNat + 1 = x.toNat from Z139]; rfl
    rw [e, minTo_sh, e2, ← HM.out]⟩
   have HK := KEY.out _ (Below.refl _ _); obtain ⟨_, b0, b1, b2, b3, b4, m0, m1, m2, m3, m4⟩ := HK; clear hlt hX
   by_cases hc : of X mv < 0
   ·have c1 : decide (of X mv < 0) = true := decide_eq_true hc
    have HC := Aside0.mk hc; clear hc
    go_wp2_with fail
    go_region_held3 (fun W' => Below wr.heap.size wr W' ∧ W'.cell? (ad.add (x.toNat * 5)) = some (.int .i64 X.f0) ∧ W'.cell? ⟨(ad.add (x.toNat * 5)).block, (ad.add (x.toNat * 5)).off + 1, none⟩ = some (.string X.f1) ∧ W'.cell? ⟨(ad.add (x.toNat * 5)).block, (ad.add (x.toNat * 5)).off + 2, none⟩ = some (.int .i64 X.f2) ∧ W'.cell? ⟨(ad.add (x.toNat * 5)).block, (ad.add (x.toNat * 5)).off + 3, none⟩ = some (.int .i64 X.f3) ∧ W'.cell? ⟨(ad.add (x.toNat * 5)).block, (ad.add (x.toNat * 5)).off + 4, none⟩ = some (.int .i64 X.f4) ∧ W'.cell? ⟨w.heap.size + 1, 0, none⟩ = some (.int .i64 mv.f0) ∧ W'.cell? ⟨w.heap.size + 1, 1, none⟩ = some (.string mv.f1) ∧ W'.cell? ⟨w.heap.size + 1, 2, none⟩ = some (.int .i64 mv.f2) ∧ W'.cell? ⟨w.heap.size + 1, 3, none⟩ = some (.int .i64 mv.f3) ∧ W'.cell? ⟨w.heap.size + 1, 4, none⟩ = some (.int .i64 mv.f4))
     ((refine KEY.out _ ?_; first | ((repeat (first | exact Below.refl _ _ | assumption | exact (‹Below wr.heap.size wr _ ∧ _›).1 | apply below_drew1 | apply pw_below_drewN)); done) | (refine below_step ?_ hb'; (repeat (first | exact Below.refl _ _ | assumption | exact (‹Below wr.heap.size wr _ ∧ _›).1 | apply below_drew1 | apply pw_below_drewN)); done)))
     (first | (go_at_fn g; refine Calls.mono (HP.out _ X mv ?_) ?_; (refine Below.trans BW.out (Below.mono ?_ (below_size BW.out)); (repeat (first | exact Below.refl _ _ | assumption | exact (‹Below wr.heap.size wr _ ∧ _›).1 | apply below_drew1 | apply pw_below_drewN))); rintro e w' ⟨rfl, hb'⟩))
    have HBr : Aside0 (Below wr.heap.size wr w') := ⟨(‹Below wr.heap.size wr w' ∧ _›).1⟩; clear b0 b1 b2 b3 b4 m0 m1 m2 m3 m4; obtain ⟨_, b0, b1, b2, b3, b4, m0, m1, m2, m3, m4⟩ := KEY.out _ HBr.out; have HBK := aM (blk_below BK.out HBr.out); have HBZ := aM (blk_below BZ.out HBr.out); have HB := aM (Below.trans BW.out (HBr.out.mono (below_size BW.out))); have f0 := blk_frozen HBK.out 0; have f1 := blk_frozen HBK.out 1; have f2 := blk_frozen HBK.out 2; have f3 := blk_frozen HBK.out 3; have f4 := blk_frozen HBK.out 4
    go_wp2
    go_roundg (xs.length - (x.toNat + 1))
    case measure => have := HX.out; have := HL.out; omega
    case rel =>
     refine ⟨x + 1, X, Z137, ⟨Z139, Z140, Z126⟩, ⟨?_⟩, ⟨?_⟩, ⟨?_⟩, ⟨by rw [HS.out, if_pos (by have := HC.out; omega)]⟩⟩
     ·exact (((((HB.out).setCell (by simp) _).setCell (by simp) _).setCell (by simp) _).setCell (by simp) _).setCell (by simp) _
     ·exact blk_put (blk_put (blk_put (blk_put (blk_put (HBK.out) 0 (.int .i64 X.f0) rfl) 1 (.string X.f1) rfl) 2 (.int .i64 X.f2) rfl) 3 (.int .i64 X.f3) rfl) 4 (.int .i64 X.f4) rfl
     ·exact blk_far (blk_far (blk_far (blk_far (blk_far (HBZ.out) (p := ⟨w.heap.size + 1, 0, none⟩) (by simp) _) (p := ⟨w.heap.size + 1, 1, none⟩) (by simp) _) (p := ⟨w.heap.size + 1, 2, none⟩) (by simp) _) (p := ⟨w.heap.size + 1, 3, none⟩) (by simp) _) (p := ⟨w.heap.size + 1, 4, none⟩) (by simp) _
   ·have c1 : decide (of X mv < 0) = false := decide_eq_false hc
    have HC := Aside0.mk hc; clear hc
    go_wp2_with fail
    go_region_held3 (fun W' => Below wr.heap.size wr W' ∧ W'.cell? (ad.add (x.toNat * 5)) = some (.int .i64 X.f0) ∧ W'.cell? ⟨(ad.add (x.toNat * 5)).block, (ad.add (x.toNat * 5)).off + 1, none⟩ = some (.string X.f1) ∧ W'.cell? ⟨(ad.add (x.toNat * 5)).block, (ad.add (x.toNat * 5)).off + 2, none⟩ = some (.int .i64 X.f2) ∧ W'.cell? ⟨(ad.add (x.toNat * 5)).block, (ad.add (x.toNat * 5)).off + 3, none⟩ = some (.int .i64 X.f3) ∧ W'.cell? ⟨(ad.add (x.toNat * 5)).block, (ad.add (x.toNat * 5)).off + 4, none⟩ = some (.int .i64 X.f4) ∧ W'.cell? ⟨w.heap.size + 1, 0, none⟩ = some (.int .i64 mv.f0) ∧ W'.cell? ⟨w.heap.size + 1, 1, none⟩ = some (.string mv.f1) ∧ W'.cell? ⟨w.heap.size + 1, 2, none⟩ = some (.int .i64 mv.f2) ∧ W'.cell? ⟨w.heap.size + 1, 3, none⟩ = some (.int .i64 mv.f3) ∧ W'.cell? ⟨w.heap.size + 1, 4, none⟩ = some (.int .i64 mv.f4))
     ((refine KEY.out _ ?_; first | ((repeat (first | exact Below.refl _ _ | assumption | exact (‹Below wr.heap.size wr _ ∧ _›).1 | apply below_drew1 | apply pw_below_drewN)); done) | (refine below_step ?_ hb'; (repeat (first | exact Below.refl _ _ | assumption | exact (‹Below wr.heap.size wr _ ∧ _›).1 | apply below_drew1 | apply pw_below_drewN)); done)))
     (first | (go_at_fn g; refine Calls.mono (HP.out _ X mv ?_) ?_; (refine Below.trans BW.out (Below.mono ?_ (below_size BW.out)); (repeat (first | exact Below.refl _ _ | assumption | exact (‹Below wr.heap.size wr _ ∧ _›).1 | apply below_drew1 | apply pw_below_drewN))); rintro e w' ⟨rfl, hb'⟩))
    have HBr : Aside0 (Below wr.heap.size wr w') := ⟨(‹Below wr.heap.size wr w' ∧ _›).1⟩; have HBK := aM (blk_below BK.out HBr.out); have HBZ := aM (blk_below BZ.out HBr.out); have HB := aM (Below.trans BW.out (HBr.out.mono (below_size BW.out)))
    go_wp2
    go_roundg (xs.length - (x.toNat + 1))
    case measure => have := HX.out; have := HL.out; omega
    case rel => exact ⟨x + 1, mv, Z137, ⟨Z139, Z140, Z126⟩, HB, HBK, HBZ, ⟨by rw [HS.out, if_neg (by have := HC.out; omega)]⟩⟩
  ·have c0 : decide (x < (xs.length : Int)) = false := decide_eq_false hlt
   have HE : Aside0 (mv = minTo_sh of xs (xs.length - 1)) := ⟨by rw [HM.out, show (x - 1).toNat = xs.length - 1 from Z139]⟩; clear hlt; have m0 : wr.cell? ⟨w.heap.size + 1, 0, none⟩ = some (.int .i64 mv.f0) := (blk_cell BK.out 0).trans rfl; have m1 : wr.cell? ⟨w.heap.size + 1, 1, none⟩ = some (.string mv.f1) := (blk_cell BK.out 1).trans rfl; have m2 : wr.cell? ⟨w.heap.size + 1, 2, none⟩ = some (.int .i64 mv.f2) := (blk_cell BK.out 2).trans rfl; have m3 : wr.cell? ⟨w.heap.size + 1, 3, none⟩ = some (.int .i64 mv.f3) := (blk_cell BK.out 3).trans rfl; have m4 : wr.cell? ⟨w.heap.size + 1, 4, none⟩ = some (.int .i64 mv.f4) := (blk_cell BK.out 4).trans rfl; have f0 := blk_frozen BZ.out 0; have f1 := blk_frozen BZ.out 1; have f2 := blk_frozen BZ.out 2; have f3 := blk_frozen BZ.out 3; have f4 := blk_frozen BZ.out 4; have y0 : wr.cell? ⟨w.heap.size, 0, none⟩ = some (.int .i64 0) := (blk_cell BZ.out 0).trans rfl; have y1 : wr.cell? ⟨w.heap.size, 1, none⟩ = some (.string ⟨#[]⟩) := (blk_cell BZ.out 1).trans rfl; have y2 : wr.cell? ⟨w.heap.size, 2, none⟩ = some (.int .i64 0) := (blk_cell BZ.out 2).trans rfl; have y3 : wr.cell? ⟨w.heap.size, 3, none⟩ = some (.int .i64 0) := (blk_cell BZ.out 3).trans rfl; have y4 : wr.cell? ⟨w.heap.size, 4, none⟩ = some (.int .i64 0) := (blk_cell BZ.out 4).trans rfl
   go_wp2
   rw [← HE.out]
   exact bodyPost_ret (v := .agg #[.int .i64 mv.f0, .string mv.f1, .int .i64 mv.f2, .int .i64 mv.f3, .int .i64 mv.f4]) (by simp [results, Tryd.results25, go_sem, y0, y1, y2, y3, y4]) rfl ⟨rfl, (((((BW.out).setCell (by simp) _).setCell (by simp) _).setCell (by simp) _).setCell (by simp) _).setCell (by simp) _⟩
def absV (a : Int) : Int := mx a (wrap64 (-a))
def gapV (a b : Int) : Int := mn (absV (wrap64 (a - b))) (wrap64 (24 - absV (wrap64 (a - b))))
def disV (a1 a2 : Int) (x : S30) : Int := wrap64 (wrap64 (2 * gapV x.f2 a1) + absV (wrap64 (x.f3 - a2)))
theorem disV_is (a1 a2 : Int) (x : S30) : impl_Shade_distance.f x.f0 x.f1 x.f2 x.f3 x.f4 0 (⟨#[]⟩ : ByteArray) a1 a2 0 = some (disV a1 a2 x) := rfl
def nearOf (a1 a2 : Int) (x y : S30) : Int := cmpW (disV a1 a2 x) (disV a1 a2 y)
theorem nearestShade_1 (b : Nat) (a1 a2 : Int) (x y : S30) (W : World) (Aa : W.cell? ⟨b, 0, none⟩ = some (.int .i64 0)) (Ab : W.cell? ⟨b, 1, none⟩ = some (.string ⟨#[]⟩)) (Ac : W.cell? ⟨b, 2, none⟩ = some (.int .i64 a1)) (Ad : W.cell? ⟨b, 3, none⟩ = some (.int .i64 a2)) (Ae : W.cell? ⟨b, 4, none⟩ = some (.int .i64 0)) (hb : b < W.heap.size) :
  Calls Tryd.prog 26 #[.agg #[.int .i64 x.f0, .string x.f1, .int .i64 x.f2, .int .i64 x.f3, .int .i64 x.f4], .agg #[.int .i64 y.f0, .string y.f1, .int .i64 y.f2, .int .i64 y.f3, .int .i64 y.f4], .pointer (some ⟨b, 0, none⟩)] W fun e w' => e = .returned (.int .i64 (nearOf a1 a2 x y)) ∧ Below W.heap.size W w' := by
 have hu_ := Tryd.underlying30
 have hs1 : (W.alloc (.cells #[.int .i64 x.f0, .string x.f1, .int .i64 x.f2, .int .i64 x.f3, .int .i64 x.f4] 30)).heap.size = W.heap.size + 1 := by simp
 have hk0 := heap_alloc_new W (.cells #[.int .i64 x.f0, .string x.f1, .int .i64 x.f2, .int .i64 x.f3, .int .i64 x.f4] 30); have hk1 := heap_alloc_new (W.alloc (.cells #[.int .i64 x.f0, .string x.f1, .int .i64 x.f2, .int .i64 x.f3, .int .i64 x.f4] 30)) (.cells #[.int .i64 y.f0, .string y.f1, .int .i64 y.f2, .int .i64 y.f3, .int .i64 y.f4] 30); rw [hs1] at hk1; have hB0 : Below W.heap.size W ((W.alloc (.cells #[.int .i64 x.f0, .string x.f1, .int .i64 x.f2, .int .i64 x.f3, .int .i64 x.f4] 30)).alloc (.cells #[.int .i64 y.f0, .string y.f1, .int .i64 y.f2, .int .i64 y.f3, .int .i64 y.f4] 30)) := below_alloc (below_alloc (Below.refl _ _) _) _; have hk0' := (below_alloc (Below.refl (W.alloc (.cells #[.int .i64 x.f0, .string x.f1, .int .i64 x.f2, .int .i64 x.f3, .int .i64 x.f4] 30)).heap.size (W.alloc (.cells #[.int .i64 x.f0, .string x.f1, .int .i64 x.f2, .int .i64 x.f3, .int .i64 x.f4] 30))) (.cells #[.int .i64 y.f0, .string y.f1, .int .i64 y.f2, .int .i64 y.f3, .int .i64 y.f4] 30))
 have KEY : Aside0 (∀ W', Below ((W.alloc (.cells #[.int .i64 x.f0, .string x.f1, .int .i64 x.f2, .int .i64 x.f3, .int .i64 x.f4] 30)).alloc (.cells #[.int .i64 y.f0, .string y.f1, .int .i64 y.f2, .int .i64 y.f3, .int .i64 y.f4] 30)).heap.size ((W.alloc (.cells #[.int .i64 x.f0, .string x.f1, .int .i64 x.f2, .int .i64 x.f3, .int .i64 x.f4] 30)).alloc (.cells #[.int .i64 y.f0, .string y.f1, .int .i64 y.f2, .int .i64 y.f3, .int .i64 y.f4] 30)) W' → Below ((W.alloc (.cells #[.int .i64 x.f0, .string x.f1, .int .i64 x.f2, .int .i64 x.f3, .int .i64 x.f4] 30)).alloc (.cells #[.int .i64 y.f0, .string y.f1, .int .i64 y.f2, .int .i64 y.f3, .int .i64 y.f4] 30)).heap.size ((W.alloc (.cells #[.int .i64 x.f0, .string x.f1, .int .i64 x.f2, .int .i64 x.f3, .int .i64 x.f4] 30)).alloc (.cells #[.int .i64 y.f0, .string y.f1, .int .i64 y.f2, .int .i64 y.f3, .int .i64 y.f4] 30)) W' ∧ W'.cell? ⟨b, 0, none⟩ = some (.int .i64 0) ∧ W'.cell? ⟨b, 1, none⟩ = some (.string ⟨#[]⟩) ∧ W'.cell? ⟨b, 2, none⟩ = some (.int .i64 a1) ∧ W'.cell? ⟨b, 3, none⟩ = some (.int .i64 a2) ∧ W'.cell? ⟨b, 4, none⟩ = some (.int .i64 0) ∧ W'.cell? ⟨W.heap.size, 0, none⟩ = some (.int .i64 x.f0) ∧ W'.cell? ⟨W.heap.size, 1, none⟩ = some (.string x.f1) ∧ W'.cell? ⟨W.heap.size, 2, none⟩ = some (.int .i64 x.f2) ∧ W'.cell? ⟨W.heap.size, 3, none⟩ = some (.int .i64 x.f3) ∧ W'.cell? ⟨W.heap.size, 4, none⟩ = some (.int .i64 x.f4) ∧ W'.cell? ⟨W.heap.size + 1, 0, none⟩ = some (.int .i64 y.f0) ∧ W'.cell? ⟨W.heap.size + 1, 1, none⟩ = some (.string y.f1) ∧ W'.cell? ⟨W.heap.size + 1, 2, none⟩ = some (.int .i64 y.f2) ∧ W'.cell? ⟨W.heap.size + 1, 3, none⟩ = some (.int .i64 y.f3) ∧ W'.cell? ⟨W.heap.size + 1, 4, none⟩ = some (.int .i64 y.f4)) := ⟨fun W' h => ⟨h,
  (h.cell (p := ⟨b, 0, none⟩) Z97).trans ((hB0.cell (p := ⟨b, 0, none⟩) hb).trans Aa), (h.cell (p := ⟨b, 1, none⟩) Z97).trans ((hB0.cell (p := ⟨b, 1, none⟩) hb).trans Ab), (h.cell (p := ⟨b, 2, none⟩) Z97).trans ((hB0.cell (p := ⟨b, 2, none⟩) hb).trans Ac), (h.cell (p := ⟨b, 3, none⟩) Z97).trans ((hB0.cell (p := ⟨b, 3, none⟩) hb).trans Ad), (h.cell (p := ⟨b, 4, none⟩) Z97).trans ((hB0.cell (p := ⟨b, 4, none⟩) hb).trans Ae),
  (h.cell (p := ⟨W.heap.size, 0, none⟩) Z97).trans ((hk0'.cell (p := ⟨W.heap.size, 0, none⟩) Z97).trans ((blk_cell hk0 0).trans rfl)), (h.cell (p := ⟨W.heap.size, 1, none⟩) Z97).trans ((hk0'.cell (p := ⟨W.heap.size, 1, none⟩) Z97).trans ((blk_cell hk0 1).trans rfl)), (h.cell (p := ⟨W.heap.size, 2, none⟩) Z97).trans ((hk0'.cell (p := ⟨W.heap.size, 2, none⟩) Z97).trans ((blk_cell hk0 2).trans rfl)), (h.cell (p := ⟨W.heap.size, 3, none⟩) Z97).trans ((hk0'.cell (p := ⟨W.heap.size, 3, none⟩) Z97).trans ((blk_cell hk0 3).trans rfl)), (h.cell (p := ⟨W.heap.size, 4, none⟩) Z97).trans ((hk0'.cell (p := ⟨W.heap.size, 4, none⟩) Z97).trans ((blk_cell hk0 4).trans rfl)),
  (h.cell (p := ⟨W.heap.size + 1, 0, none⟩) Z97).trans ((blk_cell hk1 0).trans rfl), (h.cell (p := ⟨W.heap.size + 1, 1, none⟩) Z97).trans ((blk_cell hk1 1).trans rfl), (h.cell (p := ⟨W.heap.size + 1, 2, none⟩) Z97).trans ((blk_cell hk1 2).trans rfl), (h.cell (p := ⟨W.heap.size + 1, 3, none⟩) Z97).trans ((blk_cell hk1 3).trans rfl), (h.cell (p := ⟨W.heap.size + 1, 4, none⟩) Z97).trans ((blk_cell hk1 4).trans rfl)⟩⟩
 have Af := Aside0.mk hB0; have HX := aM (disV_is a1 a2 x); have HY := aM (disV_is a1 a2 y); obtain ⟨dx, hdx⟩ : ∃ dx, dx = disV a1 a2 x := ⟨_, rfl⟩; obtain ⟨dy, hdy⟩ : ∃ dy, dy = disV a1 a2 y := ⟨_, rfl⟩
 have hN : nearOf a1 a2 x y = cmpW dx dy := by rw [hdx, hdy]; rfl
 rw [hN]; rw [← hdx] at HX; rw [← hdy] at HY; clear hs1 hk0 hk1 hk0' hB0 Aa Ab Ac Ad Ae hdx hdy hN
 go_enter Tryd.func26, Tryd.ntmps26
 go_wp2_with fail
 go_region_held3 (fun W' => Below ((W.alloc (.cells #[.int .i64 x.f0, .string x.f1, .int .i64 x.f2, .int .i64 x.f3, .int .i64 x.f4] 30)).alloc (.cells #[.int .i64 y.f0, .string y.f1, .int .i64 y.f2, .int .i64 y.f3, .int .i64 y.f4] 30)).heap.size ((W.alloc (.cells #[.int .i64 x.f0, .string x.f1, .int .i64 x.f2, .int .i64 x.f3, .int .i64 x.f4] 30)).alloc (.cells #[.int .i64 y.f0, .string y.f1, .int .i64 y.f2, .int .i64 y.f3, .int .i64 y.f4] 30)) W' ∧ W'.cell? ⟨b, 0, none⟩ = some (.int .i64 0) ∧ W'.cell? ⟨b, 1, none⟩ = some (.string ⟨#[]⟩) ∧ W'.cell? ⟨b, 2, none⟩ = some (.int .i64 a1) ∧ W'.cell? ⟨b, 3, none⟩ = some (.int .i64 a2) ∧ W'.cell? ⟨b, 4, none⟩ = some (.int .i64 0) ∧ W'.cell? ⟨W.heap.size, 0, none⟩ = some (.int .i64 x.f0) ∧ W'.cell? ⟨W.heap.size, 1, none⟩ = some (.string x.f1) ∧ W'.cell? ⟨W.heap.size, 2, none⟩ = some (.int .i64 x.f2) ∧ W'.cell? ⟨W.heap.size, 3, none⟩ = some (.int .i64 x.f3) ∧ W'.cell? ⟨W.heap.size, 4, none⟩ = some (.int .i64 x.f4) ∧ W'.cell? ⟨W.heap.size + 1, 0, none⟩ = some (.int .i64 y.f0) ∧ W'.cell? ⟨W.heap.size + 1, 1, none⟩ = some (.string y.f1) ∧ W'.cell? ⟨W.heap.size + 1, 2, none⟩ = some (.int .i64 y.f2) ∧ W'.cell? ⟨W.heap.size + 1, 3, none⟩ = some (.int .i64 y.f3) ∧ W'.cell? ⟨W.heap.size + 1, 4, none⟩ = some (.int .i64 y.f4))
  ((refine KEY.out _ ?_; first | ((repeat (first | exact Below.refl _ _ | assumption | exact (‹Below ((W.alloc (.cells #[.int .i64 x.f0, .string x.f1, .int .i64 x.f2, .int .i64 x.f3, .int .i64 x.f4] 30)).alloc (.cells #[.int .i64 y.f0, .string y.f1, .int .i64 y.f2, .int .i64 y.f3, .int .i64 y.f4] 30)).heap.size ((W.alloc (.cells #[.int .i64 x.f0, .string x.f1, .int .i64 x.f2, .int .i64 x.f3, .int .i64 x.f4] 30)).alloc (.cells #[.int .i64 y.f0, .string y.f1, .int .i64 y.f2, .int .i64 y.f3, .int .i64 y.f4] 30)) _ ∧ _›).1 | apply below_drew1 | apply pw_below_drewN)); done) | (refine below_step ?_ hb'; (repeat (first | exact Below.refl _ _ | assumption | exact (‹Below ((W.alloc (.cells #[.int .i64 x.f0, .string x.f1, .int .i64 x.f2, .int .i64 x.f3, .int .i64 x.f4] 30)).alloc (.cells #[.int .i64 y.f0, .string y.f1, .int .i64 y.f2, .int .i64 y.f3, .int .i64 y.f4] 30)).heap.size ((W.alloc (.cells #[.int .i64 x.f0, .string x.f1, .int .i64 x.f2, .int .i64 x.f3, .int .i64 x.f4] 30)).alloc (.cells #[.int .i64 y.f0, .string y.f1, .int .i64 y.f2, .int .i64 y.f3, .int .i64 y.f4] 30)) _ ∧ _›).1 | apply below_drew1 | apply pw_below_drewN)); done)))
  (first | (go_at_call 28; (with_reducible refine Calls.mono (impl_Shade_distance.calls _ _ _ _ _ _ _ _ _ _ _ _ HX.out) ?_); rintro e w' ⟨rfl, hb'⟩) | (go_at_call 28; (with_reducible refine Calls.mono (impl_Shade_distance.calls _ _ _ _ _ _ _ _ _ _ _ _ HY.out) ?_); rintro e w' ⟨rfl, hb'⟩) | (go_at_call 27; refine Calls.mono (cmpW_calls dx dy _) ?_; rintro e w' ⟨rfl, rfl⟩))
 have HBr : Aside0 (Below ((W.alloc (.cells #[.int .i64 x.f0, .string x.f1, .int .i64 x.f2, .int .i64 x.f3, .int .i64 x.f4] 30)).alloc (.cells #[.int .i64 y.f0, .string y.f1, .int .i64 y.f2, .int .i64 y.f3, .int .i64 y.f4] 30)).heap.size ((W.alloc (.cells #[.int .i64 x.f0, .string x.f1, .int .i64 x.f2, .int .i64 x.f3, .int .i64 x.f4] 30)).alloc (.cells #[.int .i64 y.f0, .string y.f1, .int .i64 y.f2, .int .i64 y.f3, .int .i64 y.f4] 30)) w') := ⟨(‹Below ((W.alloc (.cells #[.int .i64 x.f0, .string x.f1, .int .i64 x.f2, .int .i64 x.f3, .int .i64 x.f4] 30)).alloc (.cells #[.int .i64 y.f0, .string y.f1, .int .i64 y.f2, .int .i64 y.f3, .int .i64 y.f4] 30)).heap.size ((W.alloc (.cells #[.int .i64 x.f0, .string x.f1, .int .i64 x.f2, .int .i64 x.f3, .int .i64 x.f4] 30)).alloc (.cells #[.int .i64 y.f0, .string y.f1, .int .i64 y.f2, .int .i64 y.f3, .int .i64 y.f4] 30)) w' ∧ _›).1⟩
 go_wp2
 go_ret
 exact ⟨Z109, Af.out.trans (HBr.out.mono Af.out.size)⟩
def cardOk (l : List (S30)) : Bool := decide ((l.length : Int) ≤ 10) && (l.all okSh && (asc idSh l && nameOk l))
def impl_NearestShade.f (l0 : List (S30)) (a1 a2 : Int) : Option (Int × Bool) := if cardOk l0 = true then (if rng a1 0 23 = true then (if rng a2 0 9 = true then (if l0.length = 0 then some (0, false) else some ((minTo_sh (nearOf a1 a2) l0 (l0.length - 1)).f0, true)) else some (0, false)) else some (0, false)) else some (0, false)
theorem impl_NearestShade.calls (A0 : Option Addr) (c0 : Nat) (l0 : List (S30)) (a1 : Int) (a2 : Int) (r1 : Int) (r2 : Bool) (w : World) (Ab : Kd.C k30 w A0 l0.length l0) (Ad : l0.length ≤ c0) (h : impl_NearestShade.f l0 a1 a2 = some (r1, r2)) :
  Calls Tryd.prog 6 #[.slice A0 l0.length c0, .int .i64 a1, .int .i64 a2] w fun e w' => e = .returned (.tuple #[.int .i64 r1, .bool r2]) ∧ Below w.heap.size w w' := by
 have hu_ := Tryd.underlying30
 have hmf : ∀ (fn : Fn) (first cap : Array Value) (w : World), (Instr.makeFunc fn first cap).run Tryd.prog w = .ok (.func fn first cap) w := fun _ _ _ _ => rfl
 unfold impl_NearestShade.f at h
 have H1 : Aside0 (∀ W, Below w.heap.size w W → Calls Tryd.prog 22 #[.slice A0 l0.length c0] W fun e w' => e = .returned (.bool (cardOk l0)) ∧ Below W.heap.size W w') := ⟨fun W hb => impl_IsShadeCard.calls A0 c0 l0 (cardOk l0) W (Kd.C_below Ab hb) Ad rfl⟩; have H2 : Aside0 (∀ W, Calls Tryd.prog 23 #[.int .i64 a1] W fun e w' => e = .returned (.bool (rng a1 0 23)) ∧ Drawn0 W w') := ⟨fun W => impl_isStep.calls a1 _ W (by unfold impl_isStep.f; rw [impl_in.eq]; rfl)⟩; have H3 : Aside0 (∀ W, Calls Tryd.prog 24 #[.int .i64 a2, .int .i64 0, .int .i64 9] W fun e w' => e = .returned (.bool (rng a2 0 9)) ∧ Drawn0 W w') := ⟨fun W => impl_in.calls a2 0 9 _ W (impl_in.eq _ _ _)⟩; cases q1 : cardOk l0 with
 | false =>
  rw [q1] at H1
  simp only [q1, Bool.false_eq_true, if_false, Option.some.injEq, Prod.mk.injEq] at h
  obtain ⟨rfl, rfl⟩ := h; clear Ab Ad q1
  go_enter Tryd.func6, Tryd.ntmps6
  go_wp2_with fail
  refine (H1.out _ (Below.refl _ _)).mono ?_; rintro e w1 ⟨rfl, hb1⟩; have Aa := Aside0.mk hb1; clear hb1
  go_wp2
  go_ret2
  exact ⟨Z109, Aa.out⟩
 | true =>
  rw [q1] at H1; rw [if_pos q1] at h; cases q2 : rng a1 0 23 with
  | false =>
   rw [q2] at H2
   simp only [q2, Bool.false_eq_true, if_false, Option.some.injEq, Prod.mk.injEq] at h
   obtain ⟨rfl, rfl⟩ := h; clear Ab Ad q1 q2
   go_enter Tryd.func6, Tryd.ntmps6
   go_wp2_with fail
   refine (H1.out _ (Below.refl _ _)).mono ?_; rintro e w1 ⟨rfl, hb1⟩; have Aa := Aside0.mk hb1; clear hb1
   go_wp2_with fail
   refine (H2.out _).mono ?_; rintro e w2 ⟨rfl, hd2⟩; have Ac := aM (below_step Aa.out hd2.below); clear hd2
   go_wp2
   go_ret2
   exact ⟨Z109, Ac.out⟩
  | true =>
   rw [q2] at H2; rw [if_pos q2] at h; cases q3 : rng a2 0 9 with
   | false =>
    rw [q3] at H3
    simp only [q3, Bool.false_eq_true, if_false, Option.some.injEq, Prod.mk.injEq] at h
    obtain ⟨rfl, rfl⟩ := h; clear Ab Ad q1 q2 q3
    go_enter Tryd.func6, Tryd.ntmps6
    go_wp2_with fail
    refine (H1.out _ (Below.refl _ _)).mono ?_; rintro e w1 ⟨rfl, hb1⟩; have Aa := Aside0.mk hb1; clear hb1
    go_wp2_with fail
    refine (H2.out _).mono ?_; rintro e w2 ⟨rfl, hd2⟩; have Ac := aM (below_step Aa.out hd2.below); clear hd2
    go_wp2_with fail
    refine (H3.out _).mono ?_; rintro e w3 ⟨rfl, hd3⟩; have Ae := aM (below_step Ac.out hd3.below); clear hd3
    go_wp2
    go_ret2
    exact ⟨Z109, Ae.out⟩
   | true =>
    rw [q3] at H3; rw [if_pos q3] at h
    by_cases q4 : l0.length = 0
    ·rw [if_pos q4] at h
     simp only [Option.some.injEq, Prod.mk.injEq] at h
     obtain ⟨rfl, rfl⟩ := h; have n0 : ((l0.length : Int) == 0) = true := beq_iff_eq.2 (by omega); have n1 : decide ((l0.length : Int) = 0) = true := decide_eq_true (by omega); have n2 : (l0.length == 0) = true := beq_iff_eq.2 q4; clear Ab Ad q1 q2 q3 q4
     go_enter Tryd.func6, Tryd.ntmps6
     go_wp2_with fail
     refine (H1.out _ (Below.refl _ _)).mono ?_; rintro e w1 ⟨rfl, hb1⟩; have Aa := Aside0.mk hb1; clear hb1
     go_wp2_with fail
     refine (H2.out _).mono ?_; rintro e w2 ⟨rfl, hd2⟩; have Ac := aM (below_step Aa.out hd2.below); clear hd2
     go_wp2_with fail
     refine (H3.out _).mono ?_; rintro e w3 ⟨rfl, hd3⟩; have Ae := aM (below_step Ac.out hd3.below); clear hd3
     go_wp2
     go_ret2
     exact ⟨Z109, Ae.out⟩
    ·rw [if_neg q4] at h
     simp only [Option.some.injEq, Prod.mk.injEq] at h
     obtain ⟨rfl, rfl⟩ := h; have n0 : ((l0.length : Int) == 0) = false := beq_eq_false_iff_ne.2 (by omega); have n1 : decide ((l0.length : Int) = 0) = false := decide_eq_false (by omega); have n2 : (l0.length == 0) = false := beq_eq_false_iff_ne.2 q4
     have h0 : 0 < l0.length := by omega
     have H4 : Aside0 (∀ w4, Below w.heap.size w w4 → Calls Tryd.prog 25 #[.slice A0 l0.length c0, .func (.func 26) #[] #[.pointer (some ⟨w4.heap.size, 0, none⟩)]] (w4.alloc (.cells #[.int .i64 0, .string ⟨#[]⟩, .int .i64 a1, .int .i64 a2, .int .i64 0] 30)) fun e w' => e = .returned (.agg #[.int .i64 (minTo_sh (nearOf a1 a2) l0 (l0.length - 1)).f0, .string (minTo_sh (nearOf a1 a2) l0 (l0.length - 1)).f1, .int .i64 (minTo_sh (nearOf a1 a2) l0 (l0.length - 1)).f2, .int .i64 (minTo_sh (nearOf a1 a2) l0 (l0.length - 1)).f3, .int .i64 (minTo_sh (nearOf a1 a2) l0 (l0.length - 1)).f4]) ∧ Below (w4.alloc (.cells #[.int .i64 0, .string ⟨#[]⟩, .int .i64 a1, .int .i64 a2, .int .i64 0] 30)).heap.size (w4.alloc (.cells #[.int .i64 0, .string ⟨#[]⟩, .int .i64 a1, .int .i64 a2, .int .i64 0] 30)) w') := ⟨fun w4 hb => by
      have hk := heap_alloc_new w4 (.cells #[.int .i64 0, .string ⟨#[]⟩, .int .i64 a1, .int .i64 a2, .int .i64 0] 30)
      exact MinFunc_sh (nearOf a1 a2) 26 #[.pointer (some ⟨w4.heap.size, 0, none⟩)] A0 c0 l0 (w4.alloc (.cells #[.int .i64 0, .string ⟨#[]⟩, .int .i64 a1, .int .i64 a2, .int .i64 0] 30)) h0 (enters_of Tryd.func26 Z52 rfl) (Kd.C_below (Kd.C_below Ab hb) (below_alloc (Below.refl _ _) _))
       (fun W x y hW => nearestShade_1 w4.heap.size a1 a2 x y W ((hW.cell (p := ⟨w4.heap.size, 0, none⟩) (by simp)).trans ((blk_cell hk 0).trans rfl)) ((hW.cell (p := ⟨w4.heap.size, 1, none⟩) (by simp)).trans ((blk_cell hk 1).trans rfl)) ((hW.cell (p := ⟨w4.heap.size, 2, none⟩) (by simp)).trans ((blk_cell hk 2).trans rfl)) ((hW.cell (p := ⟨w4.heap.size, 3, none⟩) (by simp)).trans ((blk_cell hk 3).trans rfl)) ((hW.cell (p := ⟨w4.heap.size, 4, none⟩) (by simp)).trans ((blk_cell hk 4).trans rfl)) (Nat.lt_of_lt_of_le (by simp) hW.size))⟩
     clear Ab Ad q1 q2 q3 q4
     go_enter Tryd.func6, Tryd.ntmps6
     go_wp2_with fail
     refine (H1.out _ (Below.refl _ _)).mono ?_; rintro e w1 ⟨rfl, hb1⟩; have Aa := Aside0.mk hb1; clear hb1
     go_wp2_with fail
     refine (H2.out _).mono ?_; rintro e w2 ⟨rfl, hd2⟩; have Ac := aM (below_step Aa.out hd2.below); clear hd2
     go_wp2_with fail
     refine (H3.out _).mono ?_; rintro e w3 ⟨rfl, hd3⟩; have Ae := aM (below_step Ac.out hd3.below); clear hd3
     go_wp2_with fail
     refine (H4.out _ Ae.out).mono ?_; rintro e w5 ⟨rfl, hb5⟩; have Af := aM (below_step (below_alloc Ae.out _) hb5); clear hb5
     go_wp2
     go_ret2
     exact ⟨Z109, by first | exact Af.out | exact below_alloc Af.out _ | (repeat (first | exact Af.out | apply below_alloc | refine Below.setCell ?_ (by simp) _))⟩
def spec_l1Most.f (a0 : Int) (a1 : Int) : Option (Int) := if a0 > a1 then (some a0) else (some a1)
theorem spec_l1Most.calls (a0 : Int) (a1 : Int) (r : Int) (w : World) (h : spec_l1Most.f a0 a1 = some r) :
  Calls Tryd.prog 58 #[.int .i64 a0, .int .i64 a1] w fun e w' => e = .returned (.int .i64 r) ∧ Drawn0 w w' := by
 have H : (if a0 > a1 then (some a0) else (some a1)) = some r := h; clear h
 by_cases c3 : a0 > a1
 ·rw [if_pos c3] at H
  have c3b0 : decide (a1 < a0) = true := decide_eq_true c3; clear c3; obtain rfl := Option.some.inj H
  go_enter Tryd.func58, Tryd.ntmps58
  go_wp2
  go_ret
  exact ⟨Z37, Z61⟩
 ·rw [if_neg c3] at H
  have c3b0 : decide (a1 < a0) = false := decide_eq_false c3; clear c3; obtain rfl := Option.some.inj H
  go_enter Tryd.func58, Tryd.ntmps58
  go_wp2
  go_ret
  exact ⟨Z37, Z61⟩
def spec_l3Apart.f (a0 : Int) (a1 : Int) : Option (Int) := (spec_l1Most.f (wrap64 (a0 - a1)) (wrap64 (a1 - a0))).bind fun t287 => (some t287)
theorem spec_l3Apart.calls (a0 : Int) (a1 : Int) (r : Int) (w : World) (h : spec_l3Apart.f a0 a1 = some r) :
  Calls Tryd.prog 43 #[.int .i64 a0, .int .i64 a1] w fun e w' => e = .returned (.int .i64 r) ∧ Drawn0 w w' := by
 have H : ((spec_l1Most.f (wrap64 (a0 - a1)) (wrap64 (a1 - a0))).bind fun Aa => (some Aa)) = some r := h; clear h; replace H := Option.bind_eq_some_iff.mp H; obtain ⟨Aa, Ab, H⟩ := H; replace H : (some Aa) = some r := H; have A3 := Aside0.mk Ab; clear Ab; obtain rfl := Option.some.inj H
 go_enter Tryd.func43, Tryd.ntmps43
 go_wp2_with (first | ((with_reducible refine gate_callee (f := 58) rfl ?_); refine glE (some 11) Tryd.func58 #[.int .i64 (wrap64 (a0 - a1)), .int .i64 (wrap64 (a1 - a0))] ?_; (with_reducible refine (spec_l1Most.calls (wrap64 (a0 - a1)) (wrap64 (a1 - a0)) Aa _ A3.out).mono ?_); rintro e w' ⟨rfl, ⟨nd, rfl⟩⟩; refine ⟨_, rfl, ?_⟩))
 go_ret
 exact ⟨Z37, Z61⟩
def spec_l1Least.f (a0 : Int) (a1 : Int) : Option (Int) := if a0 < a1 then (some a0) else (some a1)
theorem spec_l1Least.calls (a0 : Int) (a1 : Int) (r : Int) (w : World) (h : spec_l1Least.f a0 a1 = some r) :
  Calls Tryd.prog 59 #[.int .i64 a0, .int .i64 a1] w fun e w' => e = .returned (.int .i64 r) ∧ Drawn0 w w' := by
 have H : (if a0 < a1 then (some a0) else (some a1)) = some r := h; clear h
 by_cases c3 : a0 < a1
 ·rw [if_pos c3] at H
  have c3b0 : decide (a0 < a1) = true := decide_eq_true c3; clear c3; obtain rfl := Option.some.inj H
  go_enter Tryd.func59, Tryd.ntmps59
  go_wp2
  go_ret
  exact ⟨Z37, Z61⟩
 ·rw [if_neg c3] at H
  have c3b0 : decide (a0 < a1) = false := decide_eq_false c3; clear c3; obtain rfl := Option.some.inj H
  go_enter Tryd.func59, Tryd.ntmps59
  go_wp2
  go_ret
  exact ⟨Z37, Z61⟩
def spec_l3Gap.f (a0 : Int) (a1 : Int) : Option (Int) := (spec_l3Apart.f a0 a1).bind fun t288 => ((spec_l3Apart.f a0 a1).bind fun t289 => ((spec_l1Least.f t288 (wrap64 (24 - t289))).bind fun t290 => (some t290)))
theorem spec_l3Gap.calls (a0 : Int) (a1 : Int) (r : Int) (w : World) (h : spec_l3Gap.f a0 a1 = some r) :
  Calls Tryd.prog 44 #[.int .i64 a0, .int .i64 a1] w fun e w' => e = .returned (.int .i64 r) ∧ Drawn0 w w' := by
 have H : ((spec_l3Apart.f a0 a1).bind fun Ac => ((spec_l3Apart.f a0 a1).bind fun Aa => ((spec_l1Least.f Ac (wrap64 (24 - Aa))).bind fun Ab => (some Ab)))) = some r := h; clear h; replace H := Option.bind_eq_some_iff.mp H; obtain ⟨Ac, Ad, H⟩ := H; replace H : ((spec_l3Apart.f a0 a1).bind fun Aa => ((spec_l1Least.f Ac (wrap64 (24 - Aa))).bind fun Ab => (some Ab))) = some r := H; have A3 := Aside0.mk Ad; clear Ad; replace H := Option.bind_eq_some_iff.mp H; obtain ⟨Aa, Ae, H⟩ := H; replace H : ((spec_l1Least.f Ac (wrap64 (24 - Aa))).bind fun Ab => (some Ab)) = some r := H; have A4 := Aside0.mk Ae; clear Ae; replace H := Option.bind_eq_some_iff.mp H; obtain ⟨Ab, Af, H⟩ := H; replace H : (some Ab) = some r := H; have A5 := Aside0.mk Af; clear Af; obtain rfl := Option.some.inj H
 go_enter Tryd.func44, Tryd.ntmps44
 go_wp2_with (first | ((with_reducible refine gate_callee (f := 43) rfl ?_); refine glE (some 7) Tryd.func43 #[.int .i64 a0, .int .i64 a1] ?_; (with_reducible refine (spec_l3Apart.calls a0 a1 Ac _ A3.out).mono ?_); rintro e w' ⟨rfl, ⟨nd, rfl⟩⟩; refine ⟨_, rfl, ?_⟩) | ((with_reducible refine gate_callee (f := 43) rfl ?_); refine glE (some 10) Tryd.func43 #[.int .i64 a0, .int .i64 a1] ?_; (with_reducible refine (spec_l3Apart.calls a0 a1 Aa _ A4.out).mono ?_); rintro e w' ⟨rfl, ⟨nd, rfl⟩⟩; refine ⟨_, rfl, ?_⟩) | ((with_reducible refine gate_callee (f := 59) rfl ?_); refine glE (some 12) Tryd.func59 #[.int .i64 Ac, .int .i64 (wrap64 (24 - Aa))] ?_; (with_reducible refine (spec_l1Least.calls Ac (wrap64 (24 - Aa)) Ab _ A5.out).mono ?_); rintro e w' ⟨rfl, ⟨nd, rfl⟩⟩; refine ⟨_, rfl, ?_⟩))
 go_ret
 exact ⟨Z37, Z61⟩
def spec_l3Far.f (a0_0 : Int) (a0_1 : ByteArray) (a0_2 : Int) (a0_3 : Int) (a0_4 : Int) (a1 : Int) (a2 : Int) : Option (Int) := (spec_l3Gap.f a0_2 a1).bind fun t292 => ((spec_l3Apart.f a0_3 a2).bind fun t293 => (some (wrap64 ((wrap64 (2 * t292)) + t293))))
theorem spec_l3Far.calls (Af : Int) (Ag : ByteArray) (Ac : Int) (Ab : Int) (Ah : Int) (a1 : Int) (a2 : Int) (r : Int) (w : World) (h : spec_l3Far.f Af Ag Ac Ab Ah a1 a2 = some r) :
  Calls Tryd.prog 32 #[.agg #[.int .i64 Af, .string Ag, .int .i64 Ac, .int .i64 Ab, .int .i64 Ah], .int .i64 a1, .int .i64 a2] w fun e w' => e = .returned (.int .i64 r) ∧ Below w.heap.size w w' := by
 have hu30 := Tryd.underlying30; have HB := aM (Below.refl w.heap.size w); have H : ((spec_l3Gap.f Ac a1).bind fun Ae => ((spec_l3Apart.f Ab a2).bind fun Ad => (some (wrap64 ((wrap64 (2 * Ae)) + Ad))))) = some r := h; clear h; replace H := Option.bind_eq_some_iff.mp H; obtain ⟨Ae, Ax, H⟩ := H; replace H : ((spec_l3Apart.f Ab a2).bind fun Ad => (some (wrap64 ((wrap64 (2 * Ae)) + Ad)))) = some r := H; have A4 := Aside0.mk Ax; clear Ax; replace H := Option.bind_eq_some_iff.mp H; obtain ⟨Ad, Ay, H⟩ := H; replace H : (some (wrap64 ((wrap64 (2 * Ae)) + Ad))) = some r := H; have A5 := Aside0.mk Ay; clear Ay; obtain rfl := Option.some.inj H
 go_enter Tryd.func32, Tryd.ntmps32
 go_wp2_with (first | ((with_reducible refine gate_dst (N := 3) rfl ?_); refine bxE 3 #[.int .i64 Af, .string Ag, .int .i64 Ac, .int .i64 Ab, .int .i64 Ah] 30 ?_; intro Av hg w6 hbox hb; have Aa := aM (hbox); have Aw := gwS hg Z1; have Ai := gwS hg Z1; replace HB := hbS Z1 hb; clear hb hbox hg; obtain ⟨Aj, Ak, Al, Am, An⟩ := bz5 Aa; obtain ⟨Ao, Ap, Aq, Ar, Au⟩ := fz5 Aa) | (go_at_call 44; (with_reducible refine (spec_l3Gap.calls Ac a1 Ae _ A4.out).mono ?_); rintro e w' ⟨rfl, ⟨nd, rfl⟩⟩; (try first | exact ⟨rfl, _, World.drewN_drewN _ _ _⟩ | exact ⟨rfl, _, Eq.trans (World.drewN_drewN _ _ _) (congrArg (World.drewN _) (Nat.add_assoc _ _ _))⟩)) | (go_at_call 43; (with_reducible refine (spec_l3Apart.calls Ab a2 Ad _ A5.out).mono ?_); rintro e w' ⟨rfl, ⟨nd, rfl⟩⟩; (try first | exact ⟨rfl, _, World.drewN_drewN _ _ _⟩ | exact ⟨rfl, _, Eq.trans (World.drewN_drewN _ _ _) (congrArg (World.drewN _) (Nat.add_assoc _ _ _))⟩)))
 repeat (go_quiet (first | ((with_reducible refine gate_dst (N := 3) rfl ?_); refine bxE 3 #[.int .i64 Af, .string Ag, .int .i64 Ac, .int .i64 Ab, .int .i64 Ah] 30 ?_; intro Av hg w6 hbox hb; have Aa := aM (hbox); have Aw := gwS hg Z1; have Ai := gwS hg Z1; replace HB := hbS Z1 hb; clear hb hbox hg; obtain ⟨Aj, Ak, Al, Am, An⟩ := bz5 Aa; obtain ⟨Ao, Ap, Aq, Ar, Au⟩ := fz5 Aa) | (go_at_call 44; (with_reducible refine (spec_l3Gap.calls Ac a1 Ae _ A4.out).mono ?_); rintro e w' ⟨rfl, ⟨nd, rfl⟩⟩; (try first | exact ⟨rfl, _, World.drewN_drewN _ _ _⟩ | exact ⟨rfl, _, Eq.trans (World.drewN_drewN _ _ _) (congrArg (World.drewN _) (Nat.add_assoc _ _ _))⟩)) | (go_at_call 43; (with_reducible refine (spec_l3Apart.calls Ab a2 Ad _ A5.out).mono ?_); rintro e w' ⟨rfl, ⟨nd, rfl⟩⟩; (try first | exact ⟨rfl, _, World.drewN_drewN _ _ _⟩ | exact ⟨rfl, _, Eq.trans (World.drewN_drewN _ _ _) (congrArg (World.drewN _) (Nat.add_assoc _ _ _))⟩))); try go_wp2_with (first | ((with_reducible refine gate_dst (N := 3) rfl ?_); refine bxE 3 #[.int .i64 Af, .string Ag, .int .i64 Ac, .int .i64 Ab, .int .i64 Ah] 30 ?_; intro Av hg w6 hbox hb; have Aa := aM (hbox); have Aw := gwS hg Z1; have Ai := gwS hg Z1; replace HB := hbS Z1 hb; clear hb hbox hg; obtain ⟨Aj, Ak, Al, Am, An⟩ := bz5 Aa; obtain ⟨Ao, Ap, Aq, Ar, Au⟩ := fz5 Aa) | (go_at_call 44; (with_reducible refine (spec_l3Gap.calls Ac a1 Ae _ A4.out).mono ?_); rintro e w' ⟨rfl, ⟨nd, rfl⟩⟩; (try first | exact ⟨rfl, _, World.drewN_drewN _ _ _⟩ | exact ⟨rfl, _, Eq.trans (World.drewN_drewN _ _ _) (congrArg (World.drewN _) (Nat.add_assoc _ _ _))⟩)) | (go_at_call 43; (with_reducible refine (spec_l3Apart.calls Ab a2 Ad _ A5.out).mono ?_); rintro e w' ⟨rfl, ⟨nd, rfl⟩⟩; (try first | exact ⟨rfl, _, World.drewN_drewN _ _ _⟩ | exact ⟨rfl, _, Eq.trans (World.drewN_drewN _ _ _) (congrArg (World.drewN _) (Nat.add_assoc _ _ _))⟩))))
 go_ret
 exact ⟨Z39, Z79⟩
mutual
def spec_NearestShade.j0 : Nat → List (S30) → Int → Int → Bool → Option (Int × Bool)
 | 0, _, _, _, _ => none
 | k + 1, x0, x1, x2, x27 => if x27 = true then (some (0, false)) else (if 0 < (x0.length : Int) then (spec_NearestShade.l0 k x0 x1 x2 1 ((rd_T30 x0 0).f0) ((rd_T30 x0 0).f1) ((rd_T30 x0 0).f2) ((rd_T30 x0 0).f3) ((rd_T30 x0 0).f4)) else (none))
def spec_NearestShade.l0 : Nat → List (S30) → Int → Int → Int → Int → ByteArray → Int → Int → Int → Option (Int × Bool)
 | 0, _, _, _, _, _, _, _, _, _ => none
 | k + 1, x0, x1, x2, x9, x299000, x299001, x299002, x299003, x299004 => if x9 < (x0.length : Int) then (if 0 ≤ x9 then ((spec_l3Far.f ((rd_T30 x0 x9).f0) ((rd_T30 x0 x9).f1) ((rd_T30 x0 x9).f2) ((rd_T30 x0 x9).f3) ((rd_T30 x0 x9).f4) x1 x2).bind fun t300 => ((spec_l3Far.f x299000 x299001 x299002 x299003 x299004 x1 x2).bind fun t301 => (if t300 < t301 then (spec_NearestShade.l0 k x0 x1 x2 (wrap64 (x9 + 1)) ((rd_T30 x0 x9).f0) ((rd_T30 x0 x9).f1) ((rd_T30 x0 x9).f2) ((rd_T30 x0 x9).f3) ((rd_T30 x0 x9).f4)) else (spec_NearestShade.l0 k x0 x1 x2 (wrap64 (x9 + 1)) x299000 x299001 x299002 x299003 x299004)))) else (none)) else (some (x299000, true))
end
def spec_NearestShade.f (k : Nat) (l0 : List (S30)) (a1 : Int) (a2 : Int) : Option (Int × Bool) := (spec_l3Good.f k l0).bind fun t294 => (if t294 = true then (if (l0.length : Int) = 0 then (spec_NearestShade.j0 k l0 a1 a2 true) else ((spec_l3Step.f a1).bind fun t295 => (if t295 = true then ((spec_l3Depth.f a2).bind fun t296 => (spec_NearestShade.j0 k l0 a1 a2 (!t296))) else (spec_NearestShade.j0 k l0 a1 a2 true)))) else (spec_NearestShade.j0 k l0 a1 a2 true))
def spec_NearestShade.T7 : Bool × List (List Nat × List Nat) := (true, [([], []), ([], []), ([0, 1], [0, 1]), ([2], [2]), ([], []), ([], []), ([3, 4, 5], [3, 4, 5]), ([], []), ([], []), ([], []), ([7, 8, 9, 6], [7, 8, 9]), ([6, 10], [6, 10])])
def spec_NearestShade.B7 : List Nat := [0, 0, 3, 7, 0, 0, 63, 0, 0, 0, 1023, 2047]
theorem spec_NearestShade.tab7 : rtab .any (opsOf Tryd.f7 7) = spec_NearestShade.T7 := by kernel_rfl
theorem spec_NearestShade.bits7 : waitsOk spec_NearestShade.T7.2 spec_NearestShade.B7 = true := by kernel_rfl
theorem spec_NearestShade.calls (k : Nat) (A0 : Option Addr) (c0 : Nat) (l0 : List (S30)) (a1 : Int) (a2 : Int) (r1 : Int) (r2 : Bool) (w : World) (Cz : Kd.C k30 w A0 l0.length l0) (C0 : l0.length ≤ c0) (h : spec_NearestShade.f k l0 a1 a2 = some (r1, r2)) :
  Calls Tryd.prog 7 #[.slice A0 l0.length c0, .int .i64 a1, .int .i64 a2] w fun e w' => e = .returned (.tuple #[.int .i64 r1, .bool r2]) ∧ Below w.heap.size w w' := by
 have hu30 := Tryd.underlying30; have Bv := Aside0.mk Cz; have Cb := Aside0.mk C0; clear Cz C0; have HB := aM (Below.refl w.heap.size w); have H : ((spec_l3Good.f k l0).bind fun Bi => (if Bi = true then (if (l0.length : Int) = 0 then (spec_NearestShade.j0 k l0 a1 a2 true) else ((spec_l3Step.f a1).bind fun Bb => (if Bb = true then ((spec_l3Depth.f a2).bind fun Au => (spec_NearestShade.j0 k l0 a1 a2 (!Au))) else (spec_NearestShade.j0 k l0 a1 a2 true)))) else (spec_NearestShade.j0 k l0 a1 a2 true))) = some (r1, r2) := h; clear h; have Cx := Aside0.mk H; clear H
 go_enter Tryd.func7, Tryd.ntmps7
 go_upto_region 1 with (fail)
 go_cut [27] (fun C6 wc => ∃ (kq : Nat) (Bh : Bool), C6 = .bool Bh ∧ Aside0 (spec_NearestShade.j0 kq l0 a1 a2 Bh = some (r1, r2)) ∧ Aside0 (kq ≤ k) ∧ Aside0 (Below w.heap.size w wc))
 case first =>
  have H := Cx.out; clear Cx; replace H := Option.bind_eq_some_iff.mp H; obtain ⟨Bi, C1, H⟩ := H; replace H : (if Bi = true then (if (l0.length : Int) = 0 then (spec_NearestShade.j0 k l0 a1 a2 true) else ((spec_l3Step.f a1).bind fun Bb => (if Bb = true then ((spec_l3Depth.f a2).bind fun Au => (spec_NearestShade.j0 k l0 a1 a2 (!Au))) else (spec_NearestShade.j0 k l0 a1 a2 true)))) else (spec_NearestShade.j0 k l0 a1 a2 true)) = some (r1, r2) := H; have A5 := Aside0.mk C1; clear C1
  by_cases c6 : Bi = true
  ·subst c6
   have H1 : (if (l0.length : Int) = 0 then (spec_NearestShade.j0 k l0 a1 a2 true) else ((spec_l3Step.f a1).bind fun Bb => (if Bb = true then ((spec_l3Depth.f a2).bind fun Au => (spec_NearestShade.j0 k l0 a1 a2 (!Au))) else (spec_NearestShade.j0 k l0 a1 a2 true)))) = some (r1, r2) := by rw [if_pos rfl] at H; exact H
   clear H; have H := H1; clear H1
   by_cases c7 : (l0.length : Int) = 0
   ·rw [if_pos c7] at H
    have c7b0 : ((l0.length : Int) == 0) = true := beq_iff_eq.mpr c7; have c7b1 : ((l0.length : Int) != 0) = false := bne_eq_false_iff_eq.mpr c7; clear c7
    (first | rw [c7b0] | (simp only [i64_w, i32_w]; rw [c7b0]) | skip)
    have H' := Aside0.mk H; clear H
    go_wp2_with (first | ((with_reducible refine gate_callee (f := 29) rfl ?_); refine glE (some 11) Tryd.func29 #[.slice A0 l0.length c0] ?_; (with_reducible refine (spec_l3Good.calls k _ _ l0 true _ ?side1 ?side2 A5.out).mono ?_); (case side1 => exact Z88); (case side2 => exact Cb.out); rintro e w8 ⟨rfl, hb⟩; refine ⟨_, rfl, ?_⟩; replace HB := hbS Z1 hb; (try clear hb)))
    go_meet
    case rel => exact ⟨_, (true), Z37, H', ⟨Z96⟩, ⟨Z1⟩⟩
   ·rw [if_neg c7] at H
    have c7b0 : ((l0.length : Int) == 0) = false := beq_eq_false_iff_ne.mpr c7; have c7b1 : ((l0.length : Int) != 0) = true := bne_iff_ne.mpr c7
    have c7b2 : ¬ (l0 = []) := fun h_ => c7 (by rw [h_]; rfl)
    (first | rw [c7b0] | (simp only [i64_w, i32_w]; rw [c7b0]) | skip)
    replace H := Option.bind_eq_some_iff.mp H; obtain ⟨Bb, C2, H⟩ := H; replace H : (if Bb = true then ((spec_l3Depth.f a2).bind fun Au => (spec_NearestShade.j0 k l0 a1 a2 (!Au))) else (spec_NearestShade.j0 k l0 a1 a2 true)) = some (r1, r2) := H; have A9 := Aside0.mk C2; clear C2
    by_cases Bz : Bb = true
    ·subst Bz
     have H1 : ((spec_l3Depth.f a2).bind fun Au => (spec_NearestShade.j0 k l0 a1 a2 (!Au))) = some (r1, r2) := by rw [if_pos rfl] at H; exact H
     clear H; have H := H1; clear H1; replace H := Option.bind_eq_some_iff.mp H; obtain ⟨Au, B3, H⟩ := H; replace H : (spec_NearestShade.j0 k l0 a1 a2 (!Au)) = some (r1, r2) := H; have C7 := Aside0.mk B3; clear B3; have H' := Aside0.mk H; clear H
     go_wp2_with (first | ((with_reducible refine gate_callee (f := 29) rfl ?_); refine glE (some 11) Tryd.func29 #[.slice A0 l0.length c0] ?_; (with_reducible refine (spec_l3Good.calls k _ _ l0 true _ ?side1 ?side2 A5.out).mono ?_); (case side1 => exact Z88); (case side2 => exact Cb.out); rintro e C8 ⟨rfl, hb⟩; refine ⟨_, rfl, ?_⟩; replace HB := hbS Z1 hb; (try clear hb)) | (go_at_call 30; (with_reducible refine (spec_l3Step.calls a1 true _ A9.out).mono ?_); rintro e w' ⟨rfl, ⟨nd, rfl⟩⟩) | (go_at_call 31; (with_reducible refine (spec_l3Depth.calls a2 Au _ C7.out).mono ?_); rintro e w' ⟨rfl, ⟨nd, rfl⟩⟩))
     go_meet
     case rel => exact ⟨_, (!Au), Z37, H', ⟨Z96⟩, ⟨Z1⟩⟩
    ·replace Bz := Bool.eq_false_iff.mpr Bz
     subst Bz
     have H1 : (spec_NearestShade.j0 k l0 a1 a2 true) = some (r1, r2) := by rw [if_neg (show ¬ (false = true) by decide)] at H; exact H
     clear H; have H := H1; clear H1; have H' := Aside0.mk H; clear H
     go_wp2_with (first | ((with_reducible refine gate_callee (f := 29) rfl ?_); refine glE (some 11) Tryd.func29 #[.slice A0 l0.length c0] ?_; (with_reducible refine (spec_l3Good.calls k _ _ l0 true _ ?side1 ?side2 A5.out).mono ?_); (case side1 => exact Z88); (case side2 => exact Cb.out); rintro e C9 ⟨rfl, hb⟩; refine ⟨_, rfl, ?_⟩; replace HB := hbS Z1 hb; (try clear hb)) | (go_at_call 30; (with_reducible refine (spec_l3Step.calls a1 false _ A9.out).mono ?_); rintro e w' ⟨rfl, ⟨nd, rfl⟩⟩))
     go_meet
     case rel => exact ⟨_, (true), Z37, H', ⟨Z96⟩, ⟨Z1⟩⟩
  ·replace c6 := Bool.eq_false_iff.mpr c6
   subst c6
   have H1 : (spec_NearestShade.j0 k l0 a1 a2 true) = some (r1, r2) := by rw [if_neg (show ¬ (false = true) by decide)] at H; exact H
   clear H; have H := H1; clear H1; have H' := Aside0.mk H; clear H
   go_wp2_with (first | ((with_reducible refine gate_callee (f := 29) rfl ?_); refine glE (some 11) Tryd.func29 #[.slice A0 l0.length c0] ?_; (with_reducible refine (spec_l3Good.calls k _ _ l0 false _ ?side1 ?side2 A5.out).mono ?_); (case side1 => exact Z88); (case side2 => exact Cb.out); rintro e Da ⟨rfl, hb⟩; refine ⟨_, rfl, ?_⟩; replace HB := hbS Z1 hb; (try clear hb)))
   go_meet
   case rel => exact ⟨_, (true), Z37, H', ⟨Z96⟩, ⟨Z1⟩⟩
 case rest =>
  clear Cx; (try clear c1); (try clear c2); (try clear p2); (try clear c6); (try clear c7); (try clear c7b0); (try clear c7b1); (try clear c7b2); (try clear Bz); obtain ⟨kq, Bh, rfl, HA, HJ3, HB⟩ := hcut; cases kq with
  | zero => exact absurd HA.out (by simp [spec_NearestShade.j0])
  | succ Cy =>
   have H := HA.out; clear HA
   simp only [spec_NearestShade.j0] at H
   by_cases B5 : Bh = true
   ·subst B5
    have H1 : (some (0, false)) = some (r1, r2) := by rw [if_pos rfl] at H; exact H
    clear H; have H := H1; clear H1
    simp only [Option.some.injEq, Prod.mk.injEq] at H
    obtain ⟨rfl, rfl⟩ := H
    go_wp2
    go_ret2
    exact ⟨Z39, Z1⟩
   ·replace B5 := Bool.eq_false_iff.mpr B5
    subst B5
    have H1 : (if 0 < (l0.length : Int) then (spec_NearestShade.l0 Cy l0 a1 a2 1 ((rd_T30 l0 0).f0) ((rd_T30 l0 0).f1) ((rd_T30 l0 0).f2) ((rd_T30 l0 0).f3) ((rd_T30 l0 0).f4)) else (none)) = some (r1, r2) := by rw [if_neg (show ¬ (false = true) by decide)] at H; exact H
    clear H; have H := H1; clear H1
    by_cases B6 : 0 < (l0.length : Int)
    ·rw [if_pos B6] at H
     have c16b0 : decide (0 < (l0.length : Int)) = true := decide_eq_true B6; have c16b1 : decide (0 < l0.length) = true := decide_eq_true (by omega); clear B6; have H' := Aside0.mk H; clear H; have Bj : 0 ≤ (0 : Int) := (by omega); have Bk : 0 < (l0.length : Int) := of_decide_eq_true Z25; obtain ⟨ad297, e297, Am, An, Ao, Ap, Aq⟩ := at_T30 Bv.out 0 Bj Bk; cases e297; have qi297 : (0 < l0.length) = True := eq_true (by omega)
     (try rw [show ((0 : Int)).toNat = 0 from rfl] at Am)
     (try rw [show 0 * 5 = 0 from rfl] at Am)
     (try rw [Addr.add_zero'] at Am)
     (try rw [show ((0 : Int)).toNat = 0 from rfl] at An)
     (try rw [show 0 * 5 = 0 from rfl] at An)
     (try rw [Addr.add_zero'] at An)
     (try rw [show ((0 : Int)).toNat = 0 from rfl] at Ao)
     (try rw [show 0 * 5 = 0 from rfl] at Ao)
     (try rw [Addr.add_zero'] at Ao)
     (try rw [show ((0 : Int)).toNat = 0 from rfl] at Ap)
     (try rw [show 0 * 5 = 0 from rfl] at Ap)
     (try rw [Addr.add_zero'] at Ap)
     (try rw [show ((0 : Int)).toNat = 0 from rfl] at Aq)
     (try rw [show 0 * 5 = 0 from rfl] at Aq)
     (try rw [Addr.add_zero'] at Aq)
     replace Am := (HB.out.cell (World.block_lt_of_cell? w _ Am)).trans Am; replace An := (HB.out.cell (World.block_lt_of_cell? w _ An)).trans An; replace Ao := (HB.out.cell (World.block_lt_of_cell? w _ Ao)).trans Ao; replace Ap := (HB.out.cell (World.block_lt_of_cell? w _ Ap)).trans Ap; replace Aq := (HB.out.cell (World.block_lt_of_cell? w _ Aq)).trans Aq; replace Bj := eq_true Bj; replace Bk := eq_true Bk
     go_wp2_with (first | ((with_reducible refine gate_dst (N := 8) rfl ?_); (try (refine gate_guard (by rfl) ?_; dsimp only)); refine bxE 8 #[.int .i64 0, .string (⟨#[]⟩ : ByteArray), .int .i64 0, .int .i64 0, .int .i64 0] 30 ?_; intro Ar hg Db hbox hb; have Ab := aM (hbox); have C3 := gwS hg Z1; have Av := gwS hg Z1; replace HB := hbS Z1 hb; clear hb hbox hg; obtain ⟨Bl, Bm, Bn, Bo, Bp⟩ := bz5 Ab; obtain ⟨Bq, Br, Bs, Bt, Bu⟩ := fz5 Ab))
     go_loopg [9] Cy (fun kq v9 w' => ∃ (Aa : Int) (Ag : Int) (Af : ByteArray) (Ae : Int) (Ad : Int) (Ac : Int), v9 = .int .i64 Aa ∧ Aside0 (spec_NearestShade.l0 kq l0 a1 a2 Aa Ag Af Ae Ad Ac = some (r1, r2)) ∧ Aside0 (kq ≤ Cy) ∧ Aside0 (w'.heap[Ar]? = some (.cells #[.int .i64 Ag, .string Af, .int .i64 Ae, .int .i64 Ad, .int .i64 Ac] 30 (0, 0))) ∧ Aside0 (Below w.heap.size w w'))
     case atStart => exact ⟨(1), ((rd_T30 l0 0).f0), ((rd_T30 l0 0).f1), ((rd_T30 l0 0).f2), ((rd_T30 l0 0).f3), ((rd_T30 l0 0).f4), Z37, H', ⟨Nat.le_refl _⟩, ⟨by (with_reducible repeat (first | refine blk_drewN ?_ _ | refine blk_drew ?_ | refine blk_alloc ?_ _)); refine blk_put (cs := #[.int .i64 ((rd_T30 l0 0).f0), .string ((rd_T30 l0 0).f1), .int .i64 ((rd_T30 l0 0).f2), .int .i64 ((rd_T30 l0 0).f3), .int .i64 0]) ?_ 4 _ rfl; (with_reducible repeat (first | refine blk_drewN ?_ _ | refine blk_drew ?_ | refine blk_alloc ?_ _)); refine blk_put (cs := #[.int .i64 ((rd_T30 l0 0).f0), .string ((rd_T30 l0 0).f1), .int .i64 ((rd_T30 l0 0).f2), .int .i64 0, .int .i64 0]) ?_ 3 _ rfl; (with_reducible repeat (first | refine blk_drewN ?_ _ | refine blk_drew ?_ | refine blk_alloc ?_ _)); refine blk_put (cs := #[.int .i64 ((rd_T30 l0 0).f0), .string ((rd_T30 l0 0).f1), .int .i64 0, .int .i64 0, .int .i64 0]) ?_ 2 _ rfl; (with_reducible repeat (first | refine blk_drewN ?_ _ | refine blk_drew ?_ | refine blk_alloc ?_ _)); refine blk_put (cs := #[.int .i64 ((rd_T30 l0 0).f0), .string (⟨#[]⟩ : ByteArray), .int .i64 0, .int .i64 0, .int .i64 0]) ?_ 1 _ rfl; (with_reducible repeat (first | refine blk_drewN ?_ _ | refine blk_drew ?_ | refine blk_alloc ?_ _)); refine blk_put (cs := #[.int .i64 0, .string (⟨#[]⟩ : ByteArray), .int .i64 0, .int .i64 0, .int .i64 0]) ?_ 0 _ rfl; (with_reducible repeat (first | refine blk_drewN ?_ _ | refine blk_drew ?_ | refine blk_alloc ?_ _)); exact Ab.out⟩, ⟨Z73⟩⟩
     case round =>
      clear H'; (try clear c1); (try clear c2); (try clear p2); (try clear q2); (try clear Dc); (try clear qi2); (try clear c6); (try clear c7); (try clear c7b0); (try clear c7b1); (try clear c7b2); (try clear Bz); (try clear B5); (try clear B6); (try clear c16b0); (try clear c16b1); (try clear Bl); (try clear Bm); (try clear Bn); (try clear Bo); (try clear Bp); (try clear Bq); (try clear Br); (try clear Bs); (try clear Bt); (try clear Bu); (try clear Am); (try clear An); (try clear Ao); (try clear Ap); (try clear Aq); (try clear p2); (try clear Bj); (try clear Bk); obtain ⟨Aa, Ag, Af, Ae, Ad, Ac, rfl, HA, HK2, Ab, HB⟩ := hrel; cases gk with
      | zero => exact absurd HA.out (by simp [spec_NearestShade.l0])
      | succ k2 =>
       have H := HA.out; clear HA
       simp only [spec_NearestShade.l0] at H
       by_cases B0 : Aa < (l0.length : Int)
       ·rw [if_pos B0] at H
        have c19b0 : decide (Aa < (l0.length : Int)) = true := decide_eq_true B0; clear B0
        by_cases Cc : 0 ≤ Aa
        ·rw [if_pos Cc] at H
         have c20b0 : decide (0 ≤ Aa) = true := decide_eq_true Cc; clear Cc; replace H := Option.bind_eq_some_iff.mp H; obtain ⟨Bd, B8, H⟩ := H; replace H : ((spec_l3Far.f Ag Af Ae Ad Ac a1 a2).bind fun Bc => (if Bd < Bc then (spec_NearestShade.l0 k2 l0 a1 a2 (wrap64 (Aa + 1)) ((rd_T30 l0 Aa).f0) ((rd_T30 l0 Aa).f1) ((rd_T30 l0 Aa).f2) ((rd_T30 l0 Aa).f3) ((rd_T30 l0 Aa).f4)) else (spec_NearestShade.l0 k2 l0 a1 a2 (wrap64 (Aa + 1)) Ag Af Ae Ad Ac))) = some (r1, r2) := H; have C4 := Aside0.mk B8; clear B8; replace H := Option.bind_eq_some_iff.mp H; obtain ⟨Bc, Ca, H⟩ := H; replace H : (if Bd < Bc then (spec_NearestShade.l0 k2 l0 a1 a2 (wrap64 (Aa + 1)) ((rd_T30 l0 Aa).f0) ((rd_T30 l0 Aa).f1) ((rd_T30 l0 Aa).f2) ((rd_T30 l0 Aa).f3) ((rd_T30 l0 Aa).f4)) else (spec_NearestShade.l0 k2 l0 a1 a2 (wrap64 (Aa + 1)) Ag Af Ae Ad Ac)) = some (r1, r2) := H; have C5 := Aside0.mk Ca; clear Ca
         by_cases B2 : Bd < Bc
         ·rw [if_pos B2] at H
          have c23b0 : decide (Bd < Bc) = true := decide_eq_true B2; clear B2; have H' := Aside0.mk H; clear H
          try go_wp2
          replace Ab := aM (blk_drew Ab.out); replace HB := aM (below_drew1 HB.out); have Bf : 0 ≤ (Aa : Int) := of_decide_eq_true Z25; have Bg : Aa < (l0.length : Int) := of_decide_eq_true Z25; obtain ⟨ad299, e299, Ah, Ai, Aj, Ak, Al⟩ := at_T30 Bv.out Aa Bf Bg; have hw299_4 := Al; have hw299_3 := Ak; have hw299_2 := Aj; have hw299_1 := Ai; have hw299_0 := Ah; obtain rfl : ad297 = ad299 := (by injection e299); replace Ah := (HB.out.cell (World.block_lt_of_cell? w _ Ah)).trans Ah; replace Ai := (HB.out.cell (World.block_lt_of_cell? w _ Ai)).trans Ai; replace Aj := (HB.out.cell (World.block_lt_of_cell? w _ Aj)).trans Aj; replace Ak := (HB.out.cell (World.block_lt_of_cell? w _ Ak)).trans Ak; replace Al := (HB.out.cell (World.block_lt_of_cell? w _ Al)).trans Al; replace Bf := eq_true Bf; replace Bg := eq_true Bg; refine start_ (n := 12) (S := fun w' => w'.cell? ⟨Ar, 0, none⟩ = some (.int .i64 Ag) ∧ w'.cell? ⟨Ar, 1, none⟩ = some (.string Af) ∧ w'.cell? ⟨Ar, 2, none⟩ = some (.int .i64 Ae) ∧ w'.cell? ⟨Ar, 3, none⟩ = some (.int .i64 Ad) ∧ w'.cell? ⟨Ar, 4, none⟩ = some (.int .i64 Ac) ∧ w'.cell? (ad297.add ((Aa).toNat * 5)) = some (.int .i64 ((rd_T30 l0 Aa).f0)) ∧ w'.cell? ⟨(ad297.add ((Aa).toNat * 5)).block, (ad297.add ((Aa).toNat * 5)).off + 1, none⟩ = some (.string ((rd_T30 l0 Aa).f1)) ∧ w'.cell? ⟨(ad297.add ((Aa).toNat * 5)).block, (ad297.add ((Aa).toNat * 5)).off + 2, none⟩ = some (.int .i64 ((rd_T30 l0 Aa).f2)) ∧ w'.cell? ⟨(ad297.add ((Aa).toNat * 5)).block, (ad297.add ((Aa).toNat * 5)).off + 3, none⟩ = some (.int .i64 ((rd_T30 l0 Aa).f3)) ∧ w'.cell? ⟨(ad297.add ((Aa).toNat * 5)).block, (ad297.add ((Aa).toNat * 5)).off + 4, none⟩ = some (.int .i64 ((rd_T30 l0 Aa).f4))) (ds := []) #[false, false, false, false, false, false, false, false, false, false, false, false] Z52 rfl rfl ⟨(blk_cell Ab.out 0).trans rfl, (blk_cell Ab.out 1).trans rfl, (blk_cell Ab.out 2).trans rfl, (blk_cell Ab.out 3).trans rfl, (blk_cell Ab.out 4).trans rfl, ((HB.out.cell (World.block_lt_of_cell? w _ hw299_0)).trans hw299_0), ((HB.out.cell (World.block_lt_of_cell? w _ hw299_1)).trans hw299_1), ((HB.out.cell (World.block_lt_of_cell? w _ hw299_2)).trans hw299_2), ((HB.out.cell (World.block_lt_of_cell? w _ hw299_3)).trans hw299_3), ((HB.out.cell (World.block_lt_of_cell? w _ hw299_4)).trans hw299_4)⟩ (fun hHeld => ?_); refine with_tabW spec_NearestShade.tab7 spec_NearestShade.bits7 (fun HT_ HW_ => ?_)
          generalize wr.drew = Dd at Ab HB Ah Ai Aj Ak Al hHeld ⊢
          refine puR 0 37 #[true, false, false, false, false, false, false, false, false, false, false, false] HT_ rfl rfl ?_; refine puR 1 38 #[true, true, false, false, false, false, false, false, false, false, false, false] HT_ rfl rfl ?_; refine puR 2 39 #[true, true, true, false, false, false, false, false, false, false, false, false] HT_ rfl rfl ?_; refine puR 4 41 #[true, true, true, false, true, false, false, false, false, false, false, false] HT_ rfl rfl ?_; refine puR 5 42 #[true, true, true, false, true, true, false, false, false, false, false, false] HT_ rfl rfl ?_; refine puR 8 45 #[true, true, true, false, true, true, false, false, true, false, false, false] HT_ rfl rfl ?_; refine puR 9 46 #[true, true, true, false, true, true, false, false, true, true, false, false] HT_ rfl rfl ?_; refine taR 3 40 #[true, true, true, true, true, true, false, false, true, true, false, false] HT_ HW_ hHeld rfl rfl ?_; refine taR 7 44 #[true, true, true, true, true, true, false, true, true, true, false, false] HT_ HW_ hHeld rfl rfl ?_; refine one_ (i := 6) (N := some 43) #[true, true, true, true, true, true, true, true, true, true, false, false] rfl rfl (one_of HT_.out Z52) (by decide) (fun K hK => ?_); refine goes_ Tryd.func32 Z52 rfl #[.agg #[.int .i64 ((rd_T30 l0 Aa).f0), .string ((rd_T30 l0 Aa).f1), .int .i64 ((rd_T30 l0 Aa).f2), .int .i64 ((rd_T30 l0 Aa).f3), .int .i64 ((rd_T30 l0 Aa).f4)], .int .i64 a1, .int .i64 a2] (by rfl) rfl rfl Z28 ?_; (with_reducible refine (spec_l3Far.calls ((rd_T30 l0 Aa).f0) ((rd_T30 l0 Aa).f1) ((rd_T30 l0 Aa).f2) ((rd_T30 l0 Aa).f3) ((rd_T30 l0 Aa).f4) a1 a2 Bd _ C4.out).mono ?_); rintro e De ⟨rfl, hb⟩; refine ⟨_, rfl, ?_⟩; replace Ab := bkB Ab hb; replace HB := hbS Z73 hb; (try clear hb); (try clear hb2); (try clear hk); (try clear hi); refine hK.out _ _ Z55 (fun hHeld => ?_); clear hK K; refine noR 43 ?_; refine one_ (i := 10) (N := some 47) #[true, true, true, true, true, true, true, true, true, true, true, false] rfl rfl (one_of HT_.out Z52) (by decide) (fun K hK => ?_); refine goes_ Tryd.func32 Z52 rfl #[.agg #[.int .i64 Ag, .string Af, .int .i64 Ae, .int .i64 Ad, .int .i64 Ac], .int .i64 a1, .int .i64 a2] (by rfl) rfl rfl Z28 ?_; (with_reducible refine (spec_l3Far.calls Ag Af Ae Ad Ac a1 a2 Bc _ C5.out).mono ?_); rintro e Df ⟨rfl, hb⟩; refine ⟨_, rfl, ?_⟩; replace Ab := bkB Ab hb; replace HB := hbS Z73 hb; (try clear hb); (try clear hb2); (try clear hk); (try clear hi); refine hK.out _ _ Z55 (fun hHeld => ?_); clear hK K; refine noR 47 ?_; refine puR 11 48 #[true, true, true, true, true, true, true, true, true, true, true, true] HT_ rfl rfl ?_; refine done_ (done_of HT_.out Z52) ?_; have Bw : 0 ≤ (Aa : Int) := of_decide_eq_true Z25; have Bx : Aa < (l0.length : Int) := of_decide_eq_true Z25; obtain ⟨ad302, e302, Aw, Ax, Ay, Az, Ba⟩ := at_T30 Bv.out Aa Bw Bx; obtain rfl : ad297 = ad302 := (by injection e302); replace Aw := (HB.out.cell (World.block_lt_of_cell? w _ Aw)).trans Aw; replace Ax := (HB.out.cell (World.block_lt_of_cell? w _ Ax)).trans Ax; replace Ay := (HB.out.cell (World.block_lt_of_cell? w _ Ay)).trans Ay; replace Az := (HB.out.cell (World.block_lt_of_cell? w _ Az)).trans Az; replace Ba := (HB.out.cell (World.block_lt_of_cell? w _ Ba)).trans Ba; replace Bw := eq_true Bw; replace Bx := eq_true Bx; obtain ⟨Cd, Ce, Cf, Cg, Ch⟩ := bz5 Ab; obtain ⟨Ci, Cj, Ck, Cl, Cm⟩ := fz5 Ab
          try go_wp2
          go_roundg k2
          case measure => have := HJ3.out; have := HK2.out; omega
          case rel => exact ⟨(wrap64 (Aa + 1)), ((rd_T30 l0 Aa).f0), ((rd_T30 l0 Aa).f1), ((rd_T30 l0 Aa).f2), ((rd_T30 l0 Aa).f3), ((rd_T30 l0 Aa).f4), Z37, H', ⟨by have := HJ3.out; have := HK2.out; omega⟩, ⟨by (with_reducible repeat (first | refine blk_drewN ?_ _ | refine blk_drew ?_ | refine blk_alloc ?_ _)); refine blk_put (cs := #[.int .i64 ((rd_T30 l0 Aa).f0), .string ((rd_T30 l0 Aa).f1), .int .i64 ((rd_T30 l0 Aa).f2), .int .i64 ((rd_T30 l0 Aa).f3), .int .i64 Ac]) ?_ 4 _ rfl; (with_reducible repeat (first | refine blk_drewN ?_ _ | refine blk_drew ?_ | refine blk_alloc ?_ _)); refine blk_put (cs := #[.int .i64 ((rd_T30 l0 Aa).f0), .string ((rd_T30 l0 Aa).f1), .int .i64 ((rd_T30 l0 Aa).f2), .int .i64 Ad, .int .i64 Ac]) ?_ 3 _ rfl; (with_reducible repeat (first | refine blk_drewN ?_ _ | refine blk_drew ?_ | refine blk_alloc ?_ _)); refine blk_put (cs := #[.int .i64 ((rd_T30 l0 Aa).f0), .string ((rd_T30 l0 Aa).f1), .int .i64 Ae, .int .i64 Ad, .int .i64 Ac]) ?_ 2 _ rfl; (with_reducible repeat (first | refine blk_drewN ?_ _ | refine blk_drew ?_ | refine blk_alloc ?_ _)); refine blk_put (cs := #[.int .i64 ((rd_T30 l0 Aa).f0), .string Af, .int .i64 Ae, .int .i64 Ad, .int .i64 Ac]) ?_ 1 _ rfl; (with_reducible repeat (first | refine blk_drewN ?_ _ | refine blk_drew ?_ | refine blk_alloc ?_ _)); refine blk_put (cs := #[.int .i64 Ag, .string Af, .int .i64 Ae, .int .i64 Ad, .int .i64 Ac]) ?_ 0 _ rfl; (with_reducible repeat (first | refine blk_drewN ?_ _ | refine blk_drew ?_ | refine blk_alloc ?_ _)); exact Ab.out⟩, ⟨Z73⟩⟩
         ·rw [if_neg B2] at H
          have c23b0 : decide (Bd < Bc) = false := decide_eq_false B2; clear B2; have H' := Aside0.mk H; clear H
          try go_wp2
          replace Ab := aM (blk_drew Ab.out); replace HB := aM (below_drew1 HB.out); have Bf : 0 ≤ (Aa : Int) := of_decide_eq_true Z25; have Bg : Aa < (l0.length : Int) := of_decide_eq_true Z25; obtain ⟨ad299, e299, Ah, Ai, Aj, Ak, Al⟩ := at_T30 Bv.out Aa Bf Bg; have hw299_4 := Al; have hw299_3 := Ak; have hw299_2 := Aj; have hw299_1 := Ai; have hw299_0 := Ah; obtain rfl : ad297 = ad299 := (by injection e299); replace Ah := (HB.out.cell (World.block_lt_of_cell? w _ Ah)).trans Ah; replace Ai := (HB.out.cell (World.block_lt_of_cell? w _ Ai)).trans Ai; replace Aj := (HB.out.cell (World.block_lt_of_cell? w _ Aj)).trans Aj; replace Ak := (HB.out.cell (World.block_lt_of_cell? w _ Ak)).trans Ak; replace Al := (HB.out.cell (World.block_lt_of_cell? w _ Al)).trans Al; replace Bf := eq_true Bf; replace Bg := eq_true Bg; refine start_ (n := 12) (S := fun w' => w'.cell? ⟨Ar, 0, none⟩ = some (.int .i64 Ag) ∧ w'.cell? ⟨Ar, 1, none⟩ = some (.string Af) ∧ w'.cell? ⟨Ar, 2, none⟩ = some (.int .i64 Ae) ∧ w'.cell? ⟨Ar, 3, none⟩ = some (.int .i64 Ad) ∧ w'.cell? ⟨Ar, 4, none⟩ = some (.int .i64 Ac) ∧ w'.cell? (ad297.add ((Aa).toNat * 5)) = some (.int .i64 ((rd_T30 l0 Aa).f0)) ∧ w'.cell? ⟨(ad297.add ((Aa).toNat * 5)).block, (ad297.add ((Aa).toNat * 5)).off + 1, none⟩ = some (.string ((rd_T30 l0 Aa).f1)) ∧ w'.cell? ⟨(ad297.add ((Aa).toNat * 5)).block, (ad297.add ((Aa).toNat * 5)).off + 2, none⟩ = some (.int .i64 ((rd_T30 l0 Aa).f2)) ∧ w'.cell? ⟨(ad297.add ((Aa).toNat * 5)).block, (ad297.add ((Aa).toNat * 5)).off + 3, none⟩ = some (.int .i64 ((rd_T30 l0 Aa).f3)) ∧ w'.cell? ⟨(ad297.add ((Aa).toNat * 5)).block, (ad297.add ((Aa).toNat * 5)).off + 4, none⟩ = some (.int .i64 ((rd_T30 l0 Aa).f4))) (ds := []) #[false, false, false, false, false, false, false, false, false, false, false, false] Z52 rfl rfl ⟨(blk_cell Ab.out 0).trans rfl, (blk_cell Ab.out 1).trans rfl, (blk_cell Ab.out 2).trans rfl, (blk_cell Ab.out 3).trans rfl, (blk_cell Ab.out 4).trans rfl, ((HB.out.cell (World.block_lt_of_cell? w _ hw299_0)).trans hw299_0), ((HB.out.cell (World.block_lt_of_cell? w _ hw299_1)).trans hw299_1), ((HB.out.cell (World.block_lt_of_cell? w _ hw299_2)).trans hw299_2), ((HB.out.cell (World.block_lt_of_cell? w _ hw299_3)).trans hw299_3), ((HB.out.cell (World.block_lt_of_cell? w _ hw299_4)).trans hw299_4)⟩ (fun hHeld => ?_); refine with_tabW spec_NearestShade.tab7 spec_NearestShade.bits7 (fun HT_ HW_ => ?_)
          generalize wr.drew = Dg at Ab HB Ah Ai Aj Ak Al hHeld ⊢
          refine puR 0 37 #[true, false, false, false, false, false, false, false, false, false, false, false] HT_ rfl rfl ?_; refine puR 1 38 #[true, true, false, false, false, false, false, false, false, false, false, false] HT_ rfl rfl ?_; refine puR 2 39 #[true, true, true, false, false, false, false, false, false, false, false, false] HT_ rfl rfl ?_; refine puR 4 41 #[true, true, true, false, true, false, false, false, false, false, false, false] HT_ rfl rfl ?_; refine puR 5 42 #[true, true, true, false, true, true, false, false, false, false, false, false] HT_ rfl rfl ?_; refine puR 8 45 #[true, true, true, false, true, true, false, false, true, false, false, false] HT_ rfl rfl ?_; refine puR 9 46 #[true, true, true, false, true, true, false, false, true, true, false, false] HT_ rfl rfl ?_; refine taR 3 40 #[true, true, true, true, true, true, false, false, true, true, false, false] HT_ HW_ hHeld rfl rfl ?_; refine taR 7 44 #[true, true, true, true, true, true, false, true, true, true, false, false] HT_ HW_ hHeld rfl rfl ?_; refine one_ (i := 6) (N := some 43) #[true, true, true, true, true, true, true, true, true, true, false, false] rfl rfl (one_of HT_.out Z52) (by decide) (fun K hK => ?_); refine goes_ Tryd.func32 Z52 rfl #[.agg #[.int .i64 ((rd_T30 l0 Aa).f0), .string ((rd_T30 l0 Aa).f1), .int .i64 ((rd_T30 l0 Aa).f2), .int .i64 ((rd_T30 l0 Aa).f3), .int .i64 ((rd_T30 l0 Aa).f4)], .int .i64 a1, .int .i64 a2] (by rfl) rfl rfl Z28 ?_; (with_reducible refine (spec_l3Far.calls ((rd_T30 l0 Aa).f0) ((rd_T30 l0 Aa).f1) ((rd_T30 l0 Aa).f2) ((rd_T30 l0 Aa).f3) ((rd_T30 l0 Aa).f4) a1 a2 Bd _ C4.out).mono ?_); rintro e Dh ⟨rfl, hb⟩; refine ⟨_, rfl, ?_⟩; replace Ab := bkB Ab hb; replace HB := hbS Z73 hb; (try clear hb); (try clear hb2); (try clear hk); (try clear hi); refine hK.out _ _ Z55 (fun hHeld => ?_); clear hK K; refine noR 43 ?_; refine one_ (i := 10) (N := some 47) #[true, true, true, true, true, true, true, true, true, true, true, false] rfl rfl (one_of HT_.out Z52) (by decide) (fun K hK => ?_); refine goes_ Tryd.func32 Z52 rfl #[.agg #[.int .i64 Ag, .string Af, .int .i64 Ae, .int .i64 Ad, .int .i64 Ac], .int .i64 a1, .int .i64 a2] (by rfl) rfl rfl Z28 ?_; (with_reducible refine (spec_l3Far.calls Ag Af Ae Ad Ac a1 a2 Bc _ C5.out).mono ?_); rintro e Di ⟨rfl, hb⟩; refine ⟨_, rfl, ?_⟩; replace Ab := bkB Ab hb; replace HB := hbS Z73 hb; (try clear hb); (try clear hb2); (try clear hk); (try clear hi); refine hK.out _ _ Z55 (fun hHeld => ?_); clear hK K; refine noR 47 ?_; refine puR 11 48 #[true, true, true, true, true, true, true, true, true, true, true, true] HT_ rfl rfl ?_; refine done_ (done_of HT_.out Z52) ?_
          try go_wp2
          go_roundg k2
          case measure => have := HJ3.out; have := HK2.out; omega
          case rel => exact ⟨(wrap64 (Aa + 1)), (Ag), (Af), (Ae), (Ad), (Ac), Z37, H', ⟨by have := HJ3.out; have := HK2.out; omega⟩, ⟨by (with_reducible repeat (first | refine blk_drewN ?_ _ | refine blk_drew ?_ | refine blk_alloc ?_ _)); exact Ab.out⟩, ⟨Z73⟩⟩
        ·rw [if_neg Cc] at H
         exact absurd H (by simp)
       ·rw [if_neg B0] at H
        have c19b0 : decide (Aa < (l0.length : Int)) = false := decide_eq_false B0; clear B0
        simp only [Option.some.injEq, Prod.mk.injEq] at H
        obtain ⟨rfl, rfl⟩ := H; obtain ⟨Cn, Co, Cp, Cq, Cr⟩ := bz5 Ab; obtain ⟨Cs, Ct, Cu, Cv, Cw⟩ := fz5 Ab
        go_wp2
        go_ret2
        exact ⟨Z39, Z73⟩
    ·rw [if_neg B6] at H
     exact absurd H (by simp)
def impl_ShadeDistance.f (a0_0 : Int) (a0_1 : ByteArray) (a0_2 : Int) (a0_3 : Int) (a0_4 : Int) (a1_0 : Int) (a1_1 : ByteArray) (a1_2 : Int) (a1_3 : Int) (a1_4 : Int) : Option (Int × Bool) := (impl_IsShade.f a0_0 a0_1 a0_2 a0_3 a0_4).bind fun t305 => (if t305 = true then ((impl_IsShade.f a1_0 a1_1 a1_2 a1_3 a1_4).bind fun t306 => (if t306 = true then ((impl_Shade_distance.f a0_0 a0_1 a0_2 a0_3 a0_4 a1_0 a1_1 a1_2 a1_3 a1_4).bind fun t307 => (some (t307, true))) else (some (0, false)))) else (some (0, false)))
theorem impl_ShadeDistance.calls (Af : Int) (Ag : ByteArray) (Ah : Int) (Ai : Int) (Aj : Int) (Ak : Int) (Al : ByteArray) (Am : Int) (An : Int) (Ao : Int) (r1 : Int) (r2 : Bool) (w : World) (h : impl_ShadeDistance.f Af Ag Ah Ai Aj Ak Al Am An Ao = some (r1, r2)) :
  Calls Tryd.prog 8 #[.agg #[.int .i64 Af, .string Ag, .int .i64 Ah, .int .i64 Ai, .int .i64 Aj], .agg #[.int .i64 Ak, .string Al, .int .i64 Am, .int .i64 An, .int .i64 Ao]] w fun e w' => e = .returned (.tuple #[.int .i64 r1, .bool r2]) ∧ Below w.heap.size w w' := by
 have hu30 := Tryd.underlying30; have HB := aM (Below.refl w.heap.size w); have H : ((impl_IsShade.f Af Ag Ah Ai Aj).bind fun Au => (if Au = true then ((impl_IsShade.f Ak Al Am An Ao).bind fun Ar => (if Ar = true then ((impl_Shade_distance.f Af Ag Ah Ai Aj Ak Al Am An Ao).bind fun Aq => (some (Aq, true))) else (some (0, false)))) else (some (0, false)))) = some (r1, r2) := h; clear h; replace H := Option.bind_eq_some_iff.mp H; obtain ⟨Au, Dd, H⟩ := H; replace H : (if Au = true then ((impl_IsShade.f Ak Al Am An Ao).bind fun Ar => (if Ar = true then ((impl_Shade_distance.f Af Ag Ah Ai Aj Ak Al Am An Ao).bind fun Aq => (some (Aq, true))) else (some (0, false)))) else (some (0, false))) = some (r1, r2) := H; have A3 := Aside0.mk Dd; clear Dd
 by_cases c4 : Au = true
 ·subst c4
  have H1 : ((impl_IsShade.f Ak Al Am An Ao).bind fun Ar => (if Ar = true then ((impl_Shade_distance.f Af Ag Ah Ai Aj Ak Al Am An Ao).bind fun Aq => (some (Aq, true))) else (some (0, false)))) = some (r1, r2) := by rw [if_pos rfl] at H; exact H
  clear H; have H := H1; clear H1; replace H := Option.bind_eq_some_iff.mp H; obtain ⟨Ar, De, H⟩ := H; replace H : (if Ar = true then ((impl_Shade_distance.f Af Ag Ah Ai Aj Ak Al Am An Ao).bind fun Aq => (some (Aq, true))) else (some (0, false))) = some (r1, r2) := H; have A5 := Aside0.mk De; clear De
  by_cases c6 : Ar = true
  ·subst c6
   have H1 : ((impl_Shade_distance.f Af Ag Ah Ai Aj Ak Al Am An Ao).bind fun Aq => (some (Aq, true))) = some (r1, r2) := by rw [if_pos rfl] at H; exact H
   clear H; have H := H1; clear H1; replace H := Option.bind_eq_some_iff.mp H; obtain ⟨Aq, Df, H⟩ := H; replace H : (some (Aq, true)) = some (r1, r2) := H; have A7 := Aside0.mk Df; clear Df
   simp only [Option.some.injEq, Prod.mk.injEq] at H
   obtain ⟨rfl, rfl⟩ := H
   go_enter Tryd.func8, Tryd.ntmps8
   go_wp2_with (first | ((with_reducible refine gate_dst (N := 2) rfl ?_); refine bxE 2 #[.int .i64 Af, .string Ag, .int .i64 Ah, .int .i64 Ai, .int .i64 Aj] 30 ?_; intro Av hg w8 hbox hb; have Aa := aM (hbox); have Aw := gwS hg Z1; have Ab := gwS hg Z1; replace HB := hbS Z1 hb; clear hb hbox hg) | ((with_reducible refine gate_dst (N := 3) rfl ?_); refine bxE 3 #[.int .i64 Ak, .string Al, .int .i64 Am, .int .i64 An, .int .i64 Ao] 30 ?_; intro Ax hg w9 hbox hb; have Ac := aM (hbox); have Ay := gwS hg Z49; have Ap := gwS hg Z49; replace HB := hbS Z49 hb; have Ad := nbL hg Aa; have Ae := nbG hg Aa; replace Aa := bkB Aa hb; clear hb hbox hg; have Dg := Ad.out; have Dh := Ae.out; obtain ⟨Az, Ba, Bb, Bc, Bd⟩ := bz5 Aa; obtain ⟨Bf, Bg, Bh, Bi, Bj⟩ := fz5 Aa) | ((with_reducible refine gate_callee (f := 33) rfl ?_); refine glE (some 7) Tryd.func33 #[.agg #[.int .i64 Af, .string Ag, .int .i64 Ah, .int .i64 Ai, .int .i64 Aj]] ?_; (with_reducible refine (impl_IsShade.calls Af Ag Ah Ai Aj true _ A3.out).mono ?_); rintro e Dm ⟨rfl, hb⟩; refine ⟨_, rfl, ?_⟩; replace Aa := bkB Aa hb; replace Ac := bkB Ac hb; replace HB := hbS Z64 hb; (try clear hb); obtain ⟨Bk, Bl, Bm, Bn, Bo⟩ := bz5 Ac; obtain ⟨Bp, Bq, Br, Bs, Bt⟩ := fz5 Ac) | (go_at_call 33; (with_reducible refine (impl_IsShade.calls Ak Al Am An Ao true _ A5.out).mono ?_); rintro e Dn ⟨rfl, hb⟩; replace Aa := bkB Aa hb; replace Ac := bkB Ac hb; replace HB := hbS Z64 hb; (try clear hb); obtain ⟨Bu, Bv, Bw, Bx, Bz⟩ := bz5 Aa; obtain ⟨B0, B2, B3, B5, B6⟩ := fz5 Aa; obtain ⟨B8, Ca, Cb, Cc, Cd⟩ := bz5 Ac; obtain ⟨Ce, Cf, Cg, Ch, Ci⟩ := fz5 Ac) | ((with_reducible refine gate_callee (f := 28) rfl ?_); refine glE (some 16) Tryd.func28 #[.agg #[.int .i64 Af, .string Ag, .int .i64 Ah, .int .i64 Ai, .int .i64 Aj], .agg #[.int .i64 Ak, .string Al, .int .i64 Am, .int .i64 An, .int .i64 Ao]] ?_; (with_reducible refine (impl_Shade_distance.calls Af Ag Ah Ai Aj Ak Al Am An Ao Aq _ A7.out).mono ?_); rintro e Dp ⟨rfl, hb⟩; refine ⟨_, rfl, ?_⟩; replace Aa := bkB Aa hb; replace Ac := bkB Ac hb; replace HB := hbS Z64 hb; (try clear hb)))
   go_ret2
   exact ⟨Z39, Z64⟩
  ·replace c6 := Bool.eq_false_iff.mpr c6
   subst c6
   have H1 : (some (0, false)) = some (r1, r2) := by rw [if_neg (show ¬ (false = true) by decide)] at H; exact H
   clear H; have H := H1; clear H1
   simp only [Option.some.injEq, Prod.mk.injEq] at H
   obtain ⟨rfl, rfl⟩ := H
   go_enter Tryd.func8, Tryd.ntmps8
   go_wp2_with (first | ((with_reducible refine gate_dst (N := 2) rfl ?_); refine bxE 2 #[.int .i64 Af, .string Ag, .int .i64 Ah, .int .i64 Ai, .int .i64 Aj] 30 ?_; intro Av hg Dq hbox hb; have Aa := aM (hbox); have Aw := gwS hg Z1; have Ab := gwS hg Z1; replace HB := hbS Z1 hb; clear hb hbox hg) | ((with_reducible refine gate_dst (N := 3) rfl ?_); refine bxE 3 #[.int .i64 Ak, .string Al, .int .i64 Am, .int .i64 An, .int .i64 Ao] 30 ?_; intro Ax hg Dr hbox hb; have Ac := aM (hbox); have Ay := gwS hg Z49; have Ap := gwS hg Z49; replace HB := hbS Z49 hb; have Ad := nbL hg Aa; have Ae := nbG hg Aa; replace Aa := bkB Aa hb; clear hb hbox hg; have Di := Ad.out; have Dj := Ae.out; obtain ⟨Cj, Ck, Cl, Cm, Cn⟩ := bz5 Aa; obtain ⟨Co, Cp, Cq, Cr, Cs⟩ := fz5 Aa) | ((with_reducible refine gate_callee (f := 33) rfl ?_); refine glE (some 7) Tryd.func33 #[.agg #[.int .i64 Af, .string Ag, .int .i64 Ah, .int .i64 Ai, .int .i64 Aj]] ?_; (with_reducible refine (impl_IsShade.calls Af Ag Ah Ai Aj true _ A3.out).mono ?_); rintro e Ds ⟨rfl, hb⟩; refine ⟨_, rfl, ?_⟩; replace Aa := bkB Aa hb; replace Ac := bkB Ac hb; replace HB := hbS Z64 hb; (try clear hb); obtain ⟨Ct, Cu, Cv, Cw, Cx⟩ := bz5 Ac; obtain ⟨Cy, Cz, C0, C1, C2⟩ := fz5 Ac) | (go_at_call 33; (with_reducible refine (impl_IsShade.calls Ak Al Am An Ao false _ A5.out).mono ?_); rintro e Dt ⟨rfl, hb⟩; replace Aa := bkB Aa hb; replace Ac := bkB Ac hb; replace HB := hbS Z64 hb; (try clear hb)))
   go_ret2
   exact ⟨Z39, Z64⟩
 ·replace c4 := Bool.eq_false_iff.mpr c4
  subst c4
  have H1 : (some (0, false)) = some (r1, r2) := by rw [if_neg (show ¬ (false = true) by decide)] at H; exact H
  clear H; have H := H1; clear H1
  simp only [Option.some.injEq, Prod.mk.injEq] at H
  obtain ⟨rfl, rfl⟩ := H
  go_enter Tryd.func8, Tryd.ntmps8
  go_wp2_with (first | ((with_reducible refine gate_dst (N := 2) rfl ?_); refine bxE 2 #[.int .i64 Af, .string Ag, .int .i64 Ah, .int .i64 Ai, .int .i64 Aj] 30 ?_; intro Av hg Du hbox hb; have Aa := aM (hbox); have Aw := gwS hg Z1; have Ab := gwS hg Z1; replace HB := hbS Z1 hb; clear hb hbox hg) | ((with_reducible refine gate_dst (N := 3) rfl ?_); refine bxE 3 #[.int .i64 Ak, .string Al, .int .i64 Am, .int .i64 An, .int .i64 Ao] 30 ?_; intro Ax hg Dv hbox hb; have Ac := aM (hbox); have Ay := gwS hg Z49; have Ap := gwS hg Z49; replace HB := hbS Z49 hb; have Ad := nbL hg Aa; have Ae := nbG hg Aa; replace Aa := bkB Aa hb; clear hb hbox hg; have Dk := Ad.out; have Dl := Ae.out; obtain ⟨C3, C4, C5, C6, C7⟩ := bz5 Aa; obtain ⟨C8, C9, Da, Db, Dc⟩ := fz5 Aa) | ((with_reducible refine gate_callee (f := 33) rfl ?_); refine glE (some 7) Tryd.func33 #[.agg #[.int .i64 Af, .string Ag, .int .i64 Ah, .int .i64 Ai, .int .i64 Aj]] ?_; (with_reducible refine (impl_IsShade.calls Af Ag Ah Ai Aj false _ A3.out).mono ?_); rintro e Dw ⟨rfl, hb⟩; refine ⟨_, rfl, ?_⟩; replace Aa := bkB Aa hb; replace Ac := bkB Ac hb; replace HB := hbS Z64 hb; (try clear hb)))
  go_ret2
  exact ⟨Z39, Z64⟩
def spec_l1Cur_years3.f (s0_0 : List Int) (s0_1 : Int) (s0_2 : Int) : Option (Int × Int × Int) := (some (([0, 5, 24, 25, 80, 200, (-1), 201] : List Int) : List Int)).bind fun y308 => ((spec_l1Cur_pick.f s0_0 s0_1 s0_2 24).bind fun bt311 => (if 0 ≤ (wrap64 (6 + (wrap64 (Int.tdiv bt311.1 11)))) then (if (wrap64 (6 + (wrap64 (Int.tdiv bt311.1 11)))) ≤ (y308.length : Int) then ((spec_l1Cur_among.f s0_0 bt311.2.1 bt311.2.2 (y308.take ((wrap64 (6 + (wrap64 (Int.tdiv bt311.1 11)))) : Int).toNat)).bind fun bt318 => (some (bt318.1, bt318.2.1, bt318.2.2))) else (none)) else (none)))
theorem spec_l1Cur_years3.calls (g : Nat) (Ad : List Int) (Ah : Int) (Ai : Int) (r1 : Int) (r2 : Int) (r3 : Int) (w0 w : World) (hI : IsS44 w0 w g Ad Ah Ai) (hB : Below w0.heap.size w0 w) (h : spec_l1Cur_years3.f Ad Ah Ai = some (r1, r2, r3)) :
  Calls Tryd.prog 34 #[.pointer (some ⟨g, 0, none⟩)] w fun e w' => e = .returned (.int .i64 r1) ∧ IsS44 w0 w' g Ad r2 r3 ∧ Below w0.heap.size w0 w' ∧ KeepBut w w' g none := by
 have HI0 := Aside0.mk hI; have HK := aM (KeepBut.refl w g none); have HL := Aside0.mk hB.size; clear hI; have Bh := Aside0.mk hB.size; have HB := Aside0.mk hB; clear hB; have H : ((some (([0, 5, 24, 25, 80, 200, (-1), 201] : List Int) : List Int)).bind fun Ab => ((spec_l1Cur_pick.f Ad Ah Ai 24).bind fun Ac => (if 0 ≤ (wrap64 (6 + (wrap64 (Int.tdiv Ac.1 11)))) then (if (wrap64 (6 + (wrap64 (Int.tdiv Ac.1 11)))) ≤ (Ab.length : Int) then ((spec_l1Cur_among.f Ad Ac.2.1 Ac.2.2 (Ab.take ((wrap64 (6 + (wrap64 (Int.tdiv Ac.1 11)))) : Int).toNat)).bind fun Aa => (some (Aa.1, Aa.2.1, Aa.2.2))) else (none)) else (none)))) = some (r1, r2, r3) := h; clear h; obtain ⟨Ab, Af⟩ : ∃ y_ : List Int, y_ = (([0, 5, 24, 25, 80, 200, (-1), 201] : List Int)) := ⟨_, rfl⟩
 replace H : ((spec_l1Cur_pick.f Ad Ah Ai 24).bind fun Ac => (if 0 ≤ (wrap64 (6 + (wrap64 (Int.tdiv Ac.1 11)))) then (if (wrap64 (6 + (wrap64 (Int.tdiv Ac.1 11)))) ≤ (Ab.length : Int) then ((spec_l1Cur_among.f Ad Ac.2.1 Ac.2.2 (Ab.take ((wrap64 (6 + (wrap64 (Int.tdiv Ac.1 11)))) : Int).toNat)).bind fun Aa => (some (Aa.1, Aa.2.1, Aa.2.2))) else (none)) else (none))) = some (r1, r2, r3) := by first | (rw [Af]; with_reducible exact H) | (have H2_ := (Option.bind_some _ _).symm.trans H; rw [Af]; with_reducible exact H2_) | (have H2_ := (Option.bind_some _ _).symm.trans H; with_reducible exact H2_) | with_reducible exact H | (rw [Af]; exact H) | exact H
 have Ao := Aside0.mk Af; clear Af; replace H := Option.bind_eq_some_iff.mp H; obtain ⟨⟨Aj, Ak, Al⟩, Bd, H⟩ := H; replace H : (if 0 ≤ (wrap64 (6 + (wrap64 (Int.tdiv Aj 11)))) then (if (wrap64 (6 + (wrap64 (Int.tdiv Aj 11)))) ≤ (Ab.length : Int) then ((spec_l1Cur_among.f Ad Ak Al (Ab.take ((wrap64 (6 + (wrap64 (Int.tdiv Aj 11)))) : Int).toNat)).bind fun Aa => (some (Aa.1, Aa.2.1, Aa.2.2))) else (none)) else (none)) = some (r1, r2, r3) := H; have A2 := Aside0.mk Bd; clear Bd; obtain ⟨ji3, hji3⟩ : ∃ j_ : Int, (wrap64 (6 + (wrap64 (Int.tdiv Aj 11)))) = j_ := ⟨_, rfl⟩
 replace H : (if 0 ≤ (ji3) then (if (ji3) ≤ (Ab.length : Int) then ((spec_l1Cur_among.f Ad Ak Al (Ab.take ((ji3) : Int).toNat)).bind fun Aa => (some (Aa.1, Aa.2.1, Aa.2.2))) else (none)) else (none)) = some (r1, r2, r3) := by first | (rw [hji3] at H; exact H) | (simp only [hji3] at H ⊢; exact H)
 (try rw [hji3] at A2)
 have hji3w : (IntKind.i64.wrap (6 + (wrap64 (Int.tdiv Aj 11)))) = ji3 := (i64_w _).trans hji3
 by_cases c4 : 0 ≤ (ji3)
 ·rw [if_pos c4] at H
  have c4b0 := eq_true c4; have c4b1 : decide (0 ≤ (ji3)) = true := decide_eq_true c4; clear c4
  by_cases c5 : (ji3) ≤ (Ab.length : Int)
  ·rw [if_pos c5] at H
   have c5b0 := eq_true c5; have c5b1 : decide ((ji3) ≤ (Ab.length : Int)) = true := decide_eq_true c5; clear c5; obtain ⟨Am, Ag⟩ : ∃ y_ : List Int, y_ = (Ab.take ((ji3) : Int).toNat) := ⟨_, rfl⟩
   replace H : ((spec_l1Cur_among.f Ad Ak Al Am).bind fun Aa => (some (Aa.1, Aa.2.1, Aa.2.2))) = some (r1, r2, r3) := by first | (rw [Ag]; with_reducible exact H) | (have H2_ := (Option.bind_some _ _).symm.trans H; rw [Ag]; with_reducible exact H2_) | (have H2_ := (Option.bind_some _ _).symm.trans H; with_reducible exact H2_) | with_reducible exact H | (rw [Ag]; exact H) | exact H
   have Ap := Aside0.mk Ag; clear Ag; replace H := Option.bind_eq_some_iff.mp H; obtain ⟨⟨Aw, Ax, Ay⟩, Bf, H⟩ := H; replace H : (some (Aw, Ax, Ay)) = some (r1, r2, r3) := H; have A6 := Aside0.mk Bf; clear Bf
   simp only [Option.some.injEq, Prod.mk.injEq] at H
   obtain ⟨rfl, rfl, rfl⟩ := H
   go_enter Tryd.func34, Tryd.ntmps34
   go_wp2_with (first | ((with_reducible refine gate_dst (N := 4) rfl ?_); refine Kd.R_lit (Kd.int .i64) _ 3 ?hg (N := 4) ?hd (xs := ([0, 5, 24, 25, 80, 200, (-1), 201] : List Int)) (inner := [.int .i64 0, .int .i64 5, .int .i64 24, .int .i64 25, .int .i64 80, .int .i64 200, .int .i64 (-1), .int .i64 201]) (ok := fun _ => True) (okp := fun _ => True) ?hr ?hp (fun _ hk => hk) trivial (Below.refl _ _) (Nat.le_refl _) (by simp) ?_; (case hd => rfl); (case hg => rfl); (case hr => first | (go_simp; done) | (go_simp; rfl)); (case hp => exact (Reps.one (show Kd.M (Kd.int .i64) _ _ _ 0 [.int .i64 0] from rfl) (Reps.one (show Kd.M (Kd.int .i64) _ _ _ 5 [.int .i64 5] from rfl) (Reps.one (show Kd.M (Kd.int .i64) _ _ _ 24 [.int .i64 24] from rfl) (Reps.one (show Kd.M (Kd.int .i64) _ _ _ 25 [.int .i64 25] from rfl) (Reps.one (show Kd.M (Kd.int .i64) _ _ _ 80 [.int .i64 80] from rfl) (Reps.one (show Kd.M (Kd.int .i64) _ _ _ 200 [.int .i64 200] from rfl) (Reps.one (show Kd.M (Kd.int .i64) _ _ _ (-1) [.int .i64 (-1)] from rfl) (Reps.one (show Kd.M (Kd.int .i64) _ _ _ 201 [.int .i64 201] from rfl) (Reps.none _ _)))))))))); intro Bg w7 Az hb hg_ hnew_; clear hg_ hnew_; (first | rw [← Ao.out] at Az | (simp only [Int.reduceToNat] at Az; rw [← Ao.out] at Az)); have Ae := aM (Kd.R_lower Az (keep_size (w := w) (g := g) (row := none) Z6)); replace HK := aM (KeepBut.trans Z6 (KeepBut.of_below hb g none) (.inl rfl)); replace HB := aM (below_step Z10 hb); replace HI0 := aM (IsS44.below Z3 hb); clear hb Az) | ((with_reducible refine gate_callee (f := 21) rfl ?_); refine glE (some 6) Tryd.func21 #[.pointer (some ⟨g, 0, none⟩), .int .i64 24] ?_; (with_reducible refine (spec_l1Cur_pick.calls g Ad Ah Ai 24 Aj Ak Al w0 _ ?side1 ?side2 A2.out).mono ?_); (case side1 => exact Z3); (case side2 => exact Z10); rintro e w9 ⟨rfl, hi, hb, hk⟩; refine ⟨_, rfl, ?_⟩; replace Ae := aM (Kd.R_mono (Kd.R_keep (IsS44.apart (show IsS44 w0 _ g Ad Ah Ai from Z3) Z69 (by decide)) hk (fun _ h => h.2)) (fun _ h => h.1)); replace HK := aM (KeepBut.trans Z6 hk (.inl rfl)); replace HB := aM (hb); replace HI0 := aM (hi); (try clear hb); (try clear hk); (try clear hi); obtain ⟨Ar, An, Bb⟩ := Kd.R_slice Ae.out; subst Bb; have Bc : ((ji3) : Int) ≤ ((Ab.length : Int) : Int) := of_decide_eq_true Z25; obtain ⟨i010, hi010, _, hsz10, _⟩ := info_parts info3; have hroom10 : Ab.length ≤ An := (Kd.R_reads' Ae.out).2.1; have hC10 : Kd.C (Kd.int .i64) _ Ar Ab.length Ab := (Kd.R_reads' Ae.out).2.2; have hcut10 := cut_to (P := Tryd.prog) 48 3 .i64 Tryd.underlying48 hi010 Ar Ab.length An (ji3) (of_decide_eq_true Z25) Bc hroom10; have Au := Kd.C_take (m := ((ji3) : Int).toNat) hC10 (by omega); have Av : Am.length = ((ji3) : Int).toNat := (by rw [Ap.out, List.length_take]; omega); rw [← Ap.out] at Au; rw [← Av] at hcut10; have Aq := Aside0.mk Au; have Ba := aM (show Am.length ≤ An from by omega); clear Au hC10 hroom10 hi010 hsz10; have KY10 := Aside0.mk Av; clear Av; have KL10 := aM (show ((ji3) : Int).toNat ≤ Ab.length from by omega); replace Bc := eq_true Bc) | ((with_reducible refine gate_callee (f := 20) rfl ?_); refine glE (some 10) Tryd.func20 #[.pointer (some ⟨g, 0, none⟩), .slice Ar Am.length An] ?_; (with_reducible refine (spec_l1Cur_among.calls g Ad Ak Al _ _ Am Aw Ax Ay w0 _ ?side1 ?side2 ?side3 ?side4 ?side5 A6.out).mono ?_); (case side1 => exact Z3); (case side2 => exact Z10); (case side3 => repeat (first | exact Z111 | (with_reducible refine Kd.C_alloc ?_ _) | (with_reducible refine Kd.C_drewN ?_ _) | (with_reducible refine Kd.C_drew ?_))); (case side4 => exact Ba.out); (case side5 => exact fun ad e_ _ h_ => IsS44.own_ne HI0.out Ae.out (by decide) Z145); rintro e Bi ⟨rfl, hi, hb, hk⟩; refine ⟨_, rfl, ?_⟩; replace Ae := aM (Kd.R_mono (Kd.R_keep (IsS44.apart (show IsS44 w0 _ g Ad Ak Al from Z3) Z69 (by decide)) hk (fun _ h => h.2)) (fun _ h => h.1)); replace HK := aM (KeepBut.trans Z6 hk (.inl rfl)); replace HB := aM (hb); replace HI0 := aM (hi); (try clear hb); (try clear hk); (try clear hi)))
   go_ret
   exact ⟨Z116, Z3, Z10, Z6⟩
  ·rw [if_neg c5] at H
   exact absurd H (by simp)
 ·rw [if_neg c4] at H
  exact absurd H (by simp)
def spec_DrawFadedApart.f (k : Nat) (l0 : List Int) : Option ((List (S30)) × Int × Int) := (spec_l1Cur_shadeCard.f k l0 0 0).bind fun bt322 => ((spec_l1Cur_years3.f l0 bt322.2.1 bt322.2.2).bind fun bt327 => ((some (([0, 2, 5, 9, 33, (-1), 34] : List Int) : List Int)).bind fun y330 => ((spec_l1Cur_pick.f l0 bt327.2.1 bt327.2.2 24).bind fun bt333 => (if 0 ≤ (wrap64 (5 + (wrap64 (Int.tdiv bt333.1 11)))) then (if (wrap64 (5 + (wrap64 (Int.tdiv bt333.1 11)))) ≤ (y330.length : Int) then ((spec_l1Cur_among.f l0 bt333.2.1 bt333.2.2 (y330.take ((wrap64 (5 + (wrap64 (Int.tdiv bt333.1 11)))) : Int).toNat)).bind fun bt340 => (some (bt322.1, bt327.1, bt340.1))) else (none)) else (none)))))
theorem spec_DrawFadedApart.calls (k : Nat) (A0 : Option Addr) (c0 : Nat) (l0 : List Int) (r1 : List (S30)) (r2 : Int) (r3 : Int) (w : World) (Bl : Kd.C (Kd.int .u8) w A0 l0.length l0) (Bm : l0.length ≤ c0) (h : spec_DrawFadedApart.f k l0 = some (r1, r2, r3)) :
  Calls Tryd.prog 9 #[.slice A0 l0.length c0] w fun e w' => ∃ v0_ : Value, e = .returned (.tuple #[v0_, .int .i64 r2, .int .i64 r3]) ∧ Kd.R k30 30 w' w.heap.size (fun _ => True) v0_ r1 ∧ Below w.heap.size w w' := by
 have hu44 := Tryd.underlying44; have Bs := Aside0.mk Bl; have Bv := Aside0.mk Bm; clear Bl Bm; have HB := aM (Below.refl w.heap.size w); have H : ((spec_l1Cur_shadeCard.f k l0 0 0).bind fun Aq => ((spec_l1Cur_years3.f l0 Aq.2.1 Aq.2.2).bind fun Ag => ((some (([0, 2, 5, 9, 33, (-1), 34] : List Int) : List Int)).bind fun Ab => ((spec_l1Cur_pick.f l0 Ag.2.1 Ag.2.2 24).bind fun Aa => (if 0 ≤ (wrap64 (5 + (wrap64 (Int.tdiv Aa.1 11)))) then (if (wrap64 (5 + (wrap64 (Int.tdiv Aa.1 11)))) ≤ (Ab.length : Int) then ((spec_l1Cur_among.f l0 Aa.2.1 Aa.2.2 (Ab.take ((wrap64 (5 + (wrap64 (Int.tdiv Aa.1 11)))) : Int).toNat)).bind fun Ad => (some (Aq.1, Ag.1, Ad.1))) else (none)) else (none)))))) = some (r1, r2, r3) := h; clear h; replace H := Option.bind_eq_some_iff.mp H; obtain ⟨⟨Ah, Av, Aw⟩, Bn, H⟩ := H; replace H : ((spec_l1Cur_years3.f l0 Av Aw).bind fun Ag => ((some (([0, 2, 5, 9, 33, (-1), 34] : List Int) : List Int)).bind fun Ab => ((spec_l1Cur_pick.f l0 Ag.2.1 Ag.2.2 24).bind fun Aa => (if 0 ≤ (wrap64 (5 + (wrap64 (Int.tdiv Aa.1 11)))) then (if (wrap64 (5 + (wrap64 (Int.tdiv Aa.1 11)))) ≤ (Ab.length : Int) then ((spec_l1Cur_among.f l0 Aa.2.1 Aa.2.2 (Ab.take ((wrap64 (5 + (wrap64 (Int.tdiv Aa.1 11)))) : Int).toNat)).bind fun Ad => (some (Ah, Ag.1, Ad.1))) else (none)) else (none))))) = some (r1, r2, r3) := H; have A2 := Aside0.mk Bn; clear Bn; replace H := Option.bind_eq_some_iff.mp H; obtain ⟨⟨Ak, An, Ao⟩, Bo, H⟩ := H; replace H : ((some (([0, 2, 5, 9, 33, (-1), 34] : List Int) : List Int)).bind fun Ab => ((spec_l1Cur_pick.f l0 An Ao 24).bind fun Aa => (if 0 ≤ (wrap64 (5 + (wrap64 (Int.tdiv Aa.1 11)))) then (if (wrap64 (5 + (wrap64 (Int.tdiv Aa.1 11)))) ≤ (Ab.length : Int) then ((spec_l1Cur_among.f l0 Aa.2.1 Aa.2.2 (Ab.take ((wrap64 (5 + (wrap64 (Int.tdiv Aa.1 11)))) : Int).toNat)).bind fun Ad => (some (Ah, Ak, Ad.1))) else (none)) else (none)))) = some (r1, r2, r3) := H; have A3 := Aside0.mk Bo; clear Bo; obtain ⟨Ab, Ai⟩ : ∃ y_ : List Int, y_ = (([0, 2, 5, 9, 33, (-1), 34] : List Int)) := ⟨_, rfl⟩
 replace H : ((spec_l1Cur_pick.f l0 An Ao 24).bind fun Aa => (if 0 ≤ (wrap64 (5 + (wrap64 (Int.tdiv Aa.1 11)))) then (if (wrap64 (5 + (wrap64 (Int.tdiv Aa.1 11)))) ≤ (Ab.length : Int) then ((spec_l1Cur_among.f l0 Aa.2.1 Aa.2.2 (Ab.take ((wrap64 (5 + (wrap64 (Int.tdiv Aa.1 11)))) : Int).toNat)).bind fun Ad => (some (Ah, Ak, Ad.1))) else (none)) else (none))) = some (r1, r2, r3) := by first | (rw [Ai]; with_reducible exact H) | (have H2_ := (Option.bind_some _ _).symm.trans H; rw [Ai]; with_reducible exact H2_) | (have H2_ := (Option.bind_some _ _).symm.trans H; with_reducible exact H2_) | with_reducible exact H | (rw [Ai]; exact H) | exact H
 have Ay := Aside0.mk Ai; clear Ai; replace H := Option.bind_eq_some_iff.mp H; obtain ⟨⟨Ap, Al, Am⟩, Bp, H⟩ := H; replace H : (if 0 ≤ (wrap64 (5 + (wrap64 (Int.tdiv Ap 11)))) then (if (wrap64 (5 + (wrap64 (Int.tdiv Ap 11)))) ≤ (Ab.length : Int) then ((spec_l1Cur_among.f l0 Al Am (Ab.take ((wrap64 (5 + (wrap64 (Int.tdiv Ap 11)))) : Int).toNat)).bind fun Ad => (some (Ah, Ak, Ad.1))) else (none)) else (none)) = some (r1, r2, r3) := H; have A4 := Aside0.mk Bp; clear Bp; obtain ⟨ji5, hji5⟩ : ∃ j_ : Int, (wrap64 (5 + (wrap64 (Int.tdiv Ap 11)))) = j_ := ⟨_, rfl⟩
 replace H : (if 0 ≤ (ji5) then (if (ji5) ≤ (Ab.length : Int) then ((spec_l1Cur_among.f l0 Al Am (Ab.take ((ji5) : Int).toNat)).bind fun Ad => (some (Ah, Ak, Ad.1))) else (none)) else (none)) = some (r1, r2, r3) := by first | (rw [hji5] at H; exact H) | (simp only [hji5] at H ⊢; exact H)
 (try rw [hji5] at A2)
 (try rw [hji5] at A3)
 (try rw [hji5] at A4)
 have hji5w : (IntKind.i64.wrap (5 + (wrap64 (Int.tdiv Ap 11)))) = ji5 := (i64_w _).trans hji5
 by_cases c6 : 0 ≤ (ji5)
 ·rw [if_pos c6] at H
  have c6b0 := eq_true c6; have c6b1 : decide (0 ≤ (ji5)) = true := decide_eq_true c6; clear c6
  by_cases c7 : (ji5) ≤ (Ab.length : Int)
  ·rw [if_pos c7] at H
   have c7b0 := eq_true c7; have c7b1 : decide ((ji5) ≤ (Ab.length : Int)) = true := decide_eq_true c7; clear c7; obtain ⟨Ar, Aj⟩ : ∃ y_ : List Int, y_ = (Ab.take ((ji5) : Int).toNat) := ⟨_, rfl⟩
   replace H : ((spec_l1Cur_among.f l0 Al Am Ar).bind fun Ad => (some (Ah, Ak, Ad.1))) = some (r1, r2, r3) := by first | (rw [Aj]; with_reducible exact H) | (have H2_ := (Option.bind_some _ _).symm.trans H; rw [Aj]; with_reducible exact H2_) | (have H2_ := (Option.bind_some _ _).symm.trans H; with_reducible exact H2_) | with_reducible exact H | (rw [Aj]; exact H) | exact H
   have Az := Aside0.mk Aj; clear Aj; replace H := Option.bind_eq_some_iff.mp H; obtain ⟨⟨Bf, Bh, Bi⟩, Bq, H⟩ := H; replace H : (some (Ah, Ak, Bf)) = some (r1, r2, r3) := H; have A8 := Aside0.mk Bq; clear Bq
   simp only [Option.some.injEq, Prod.mk.injEq] at H
   obtain ⟨rfl, rfl, rfl⟩ := H
   go_enter Tryd.func9, Tryd.ntmps9
   go_wp2_with (first | ((with_reducible refine gate_dst (N := 9) rfl ?_); refine bxE 9 #[.slice A0 l0.length c0, .int .i64 0, .int .u64 0] 44 ?_; intro Ac hg w9 hbox hb; have HI321 := aM ((⟨A0, c0, hbox, (Z185 : w.heap.size ≤ Ac), Bs.out⟩ : IsS44 w _ Ac l0 0 0)); replace HB := hbS Z1 hb; clear hb hbox hg) | ((with_reducible refine gate_callee (f := 18) rfl ?_); refine glE (some 11) Tryd.func18 #[.pointer (some ⟨Ac, 0, none⟩)] ?_; (with_reducible refine (spec_l1Cur_shadeCard.calls k Ac l0 0 0 Ah Av Aw w _ ?side1 ?side2 A2.out).mono ?_); (case side1 => exact Z63); (case side2 => exact Z71); rintro e Bw ⟨Bt, rfl, Br, hi, hb, hk⟩; refine ⟨_, rfl, ?_⟩; have Ae := aM (Kd.R_lower Br (below_size Z71)); replace HB := aM (hb); replace HI321 := aM (hi); (try clear hb); (try clear hk); (try clear hi); (try clear Br)) | ((with_reducible refine gate_callee (f := 34) rfl ?_); refine glE (some 14) Tryd.func34 #[.pointer (some ⟨Ac, 0, none⟩)] ?_; (with_reducible refine (spec_l1Cur_years3.calls Ac l0 Av Aw Ak An Ao w _ ?side1 ?side2 A3.out).mono ?_); (case side1 => exact Z63); (case side2 => exact Z71); rintro e Bx ⟨rfl, hi, hb, hk⟩; refine ⟨_, rfl, ?_⟩; replace Ae := aM (Kd.R_mono (Kd.R_keep (IsS44.apart (show IsS44 w _ Ac l0 Av Aw from Z63) Z69 (by decide)) hk (fun _ h => h.2)) (fun _ h => h.1)); replace HB := aM (hb); replace HI321 := aM (hi); (try clear hb); (try clear hk); (try clear hi)) | ((with_reducible refine gate_dst (N := 16) rfl ?_); refine Kd.R_lit (Kd.int .i64) _ 3 ?hg (N := 16) ?hd (xs := ([0, 2, 5, 9, 33, (-1), 34] : List Int)) (inner := [.int .i64 0, .int .i64 2, .int .i64 5, .int .i64 9, .int .i64 33, .int .i64 (-1), .int .i64 34]) (ok := fun _ => True) (okp := fun _ => True) ?hr ?hp (fun _ hk => hk) trivial (Below.refl _ _) (Nat.le_refl _) (by simp) ?_; (case hd => rfl); (case hg => rfl); (case hr => first | (go_simp; done) | (go_simp; rfl)); (case hp => exact (Reps.one (show Kd.M (Kd.int .i64) _ _ _ 0 [.int .i64 0] from rfl) (Reps.one (show Kd.M (Kd.int .i64) _ _ _ 2 [.int .i64 2] from rfl) (Reps.one (show Kd.M (Kd.int .i64) _ _ _ 5 [.int .i64 5] from rfl) (Reps.one (show Kd.M (Kd.int .i64) _ _ _ 9 [.int .i64 9] from rfl) (Reps.one (show Kd.M (Kd.int .i64) _ _ _ 33 [.int .i64 33] from rfl) (Reps.one (show Kd.M (Kd.int .i64) _ _ _ (-1) [.int .i64 (-1)] from rfl) (Reps.one (show Kd.M (Kd.int .i64) _ _ _ 34 [.int .i64 34] from rfl) (Reps.none _ _))))))))); intro Bu Bz Au hb hg_ hnew_; clear hg_ hnew_; (first | rw [← Ay.out] at Au | (simp only [Int.reduceToNat] at Au; rw [← Ay.out] at Au)); replace Ae := roB Ae hb; have Af := aM (Kd.R_lower Au (below_size Z71)); replace HB := aM (below_step Z71 hb); replace HI321 := aM (IsS44.below Z63 hb); clear hb Au) | ((with_reducible refine gate_callee (f := 21) rfl ?_); refine glE (some 18) Tryd.func21 #[.pointer (some ⟨Ac, 0, none⟩), .int .i64 24] ?_; (with_reducible refine (spec_l1Cur_pick.calls Ac l0 An Ao 24 Ap Al Am w _ ?side1 ?side2 A4.out).mono ?_); (case side1 => exact Z63); (case side2 => exact Z71); rintro e B0 ⟨rfl, hi, hb, hk⟩; refine ⟨_, rfl, ?_⟩; replace Ae := aM (Kd.R_mono (Kd.R_keep (IsS44.apart (show IsS44 w _ Ac l0 An Ao from Z63) Z69 (by decide)) hk (fun _ h => h.2)) (fun _ h => h.1)); replace Af := aM (Kd.R_mono (Kd.R_keep (IsS44.apart (show IsS44 w _ Ac l0 An Ao from Z63) Z43 (by decide)) hk (fun _ h => h.2)) (fun _ h => h.1)); replace HB := aM (hb); replace HI321 := aM (hi); (try clear hb); (try clear hk); (try clear hi); obtain ⟨Bb, Ax, Bj⟩ := Kd.R_slice Af.out; subst Bj; have Bk : ((ji5) : Int) ≤ ((Ab.length : Int) : Int) := of_decide_eq_true Z25; obtain ⟨i015, hi015, _, hsz15, _⟩ := info_parts info3; have hroom15 : Ab.length ≤ Ax := (Kd.R_reads' Af.out).2.1; have hC15 : Kd.C (Kd.int .i64) _ Bb Ab.length Ab := (Kd.R_reads' Af.out).2.2; have hcut15 := cut_to (P := Tryd.prog) 48 3 .i64 Tryd.underlying48 hi015 Bb Ab.length Ax (ji5) (of_decide_eq_true Z25) Bk hroom15; have Bc := Kd.C_take (m := ((ji5) : Int).toNat) hC15 (by omega); have Bd : Ar.length = ((ji5) : Int).toNat := (by rw [Az.out, List.length_take]; omega); rw [← Az.out] at Bc; rw [← Bd] at hcut15; have Ba := Aside0.mk Bc; have Bg := aM (show Ar.length ≤ Ax from by omega); clear Bc hC15 hroom15 hi015 hsz15; have KY15 := Aside0.mk Bd; clear Bd; have KL15 := aM (show ((ji5) : Int).toNat ≤ Ab.length from by omega); replace Bk := eq_true Bk) | ((with_reducible refine gate_callee (f := 20) rfl ?_); refine glE (some 22) Tryd.func20 #[.pointer (some ⟨Ac, 0, none⟩), .slice Bb Ar.length Ax] ?_; (with_reducible refine (spec_l1Cur_among.calls Ac l0 Al Am _ _ Ar Bf Bh Bi w _ ?side1 ?side2 ?side3 ?side4 ?side5 A8.out).mono ?_); (case side1 => exact Z63); (case side2 => exact Z71); (case side3 => repeat (first | exact Z112 | (with_reducible refine Kd.C_alloc ?_ _) | (with_reducible refine Kd.C_drewN ?_ _) | (with_reducible refine Kd.C_drew ?_))); (case side4 => exact Bg.out); (case side5 => exact fun ad e_ _ h_ => IsS44.own_ne HI321.out Af.out (by decide) Z145); rintro e B2 ⟨rfl, hi, hb, hk⟩; refine ⟨_, rfl, ?_⟩; replace Ae := aM (Kd.R_mono (Kd.R_keep (IsS44.apart (show IsS44 w _ Ac l0 Al Am from Z63) Z69 (by decide)) hk (fun _ h => h.2)) (fun _ h => h.1)); replace Af := aM (Kd.R_mono (Kd.R_keep (IsS44.apart (show IsS44 w _ Ac l0 Al Am from Z63) Z43 (by decide)) hk (fun _ h => h.2)) (fun _ h => h.1)); replace HB := aM (hb); replace HI321 := aM (hi); (try clear hb); (try clear hk); (try clear hi)))
   go_ret3
   exact ⟨_, Z101, Z69, Z71⟩
  ·rw [if_neg c7] at H
   exact absurd H (by simp)
 ·rw [if_neg c6] at H
  exact absurd H (by simp)
def impl_isYears.f (a0 : Int) : Option (Bool) := (impl_in.f a0 0 200).bind fun t343 => (some t343)
theorem impl_isYears.calls (a0 : Int) (r : Bool) (w : World) (h : impl_isYears.f a0 = some r) :
  Calls Tryd.prog 35 #[.int .i64 a0] w fun e w' => e = .returned (.bool r) ∧ Drawn0 w w' := by
 have H : ((impl_in.f a0 0 200).bind fun Aa => (some Aa)) = some r := h; clear h; replace H := Option.bind_eq_some_iff.mp H; obtain ⟨Aa, Ab, H⟩ := H; replace H : (some Aa) = some r := H; have A2 := Aside0.mk Ab; clear Ab; obtain rfl := Option.some.inj H
 go_enter Tryd.func35, Tryd.ntmps35
 go_wp2_with (first | ((with_reducible refine gate_callee (f := 24) rfl ?_); refine glE (some 4) Tryd.func24 #[.int .i64 a0, .int .i64 0, .int .i64 200] ?_; (with_reducible refine (impl_in.calls a0 0 200 Aa _ A2.out).mono ?_); rintro e w' ⟨rfl, ⟨nd, rfl⟩⟩; refine ⟨_, rfl, ?_⟩))
 go_ret
 exact ⟨Z37, Z61⟩
def impl_Shade_faded.f (a0_0 : Int) (a0_1 : ByteArray) (a0_2 : Int) (a0_3 : Int) (a0_4 : Int) (a1 : Int) : Option (Int × ByteArray × Int × Int × Int) := if (wrap64 (5 * a0_4)) = 0 then (none) else (some (a0_0, a0_1, a0_2, mx 0 (wrap64 (a0_3 - (wrap64 (Int.tdiv a1 (wrap64 (5 * a0_4)))))), a0_4))
def impl_Shade_faded.T1 : Bool × List (List Nat × List Nat) := (true, [([], []), ([0], [0]), ([], []), ([], []), ([3], [3]), ([4], [4]), ([2, 5], [2, 5]), ([1, 6], [1, 6]), ([7], [7]), ([0, 1, 2, 3, 4, 5, 6, 7, 8], []), ([9, 8, 0, 1, 2, 3, 4, 5, 6, 7, 8], [8, 9])])
def impl_Shade_faded.B1 : List Nat := [0, 1, 0, 0, 8, 24, 60, 127, 255, 511, 1023]
theorem impl_Shade_faded.tab1 : rtab .any (opsOf Tryd.f36 1) = impl_Shade_faded.T1 := by kernel_rfl
theorem impl_Shade_faded.bits1 : waitsOk impl_Shade_faded.T1.2 impl_Shade_faded.B1 = true := by kernel_rfl
theorem impl_Shade_faded.calls (Ad : Int) (Ae : ByteArray) (Ai : Int) (Aj : Int) (Ab : Int) (a1 : Int) (r1 : Int) (r2 : ByteArray) (r3 : Int) (r4 : Int) (r5 : Int) (w : World) (h : impl_Shade_faded.f Ad Ae Ai Aj Ab a1 = some (r1, r2, r3, r4, r5)) :
  Calls Tryd.prog 36 #[.agg #[.int .i64 Ad, .string Ae, .int .i64 Ai, .int .i64 Aj, .int .i64 Ab], .int .i64 a1] w fun e w' => e = .returned (.agg #[.int .i64 r1, .string r2, .int .i64 r3, .int .i64 r4, .int .i64 r5]) ∧ Below w.heap.size w w' := by
 have hu30 := Tryd.underlying30; have HB := aM (Below.refl w.heap.size w); have H : (if (wrap64 (5 * Ab)) = 0 then (none) else (some (Ad, Ae, Ai, mx 0 (wrap64 (Aj - (wrap64 (Int.tdiv a1 (wrap64 (5 * Ab)))))), Ab))) = some (r1, r2, r3, r4, r5) := h; clear h
 by_cases c3 : (wrap64 (5 * Ab)) = 0
 ·rw [if_pos c3] at H
  exact absurd H (by simp)
 ·rw [if_neg c3] at H
  have c3b0 : ((wrap64 (5 * Ab)) == 0) = false := beq_eq_false_iff_ne.mpr c3; have c3b1 : ((wrap64 (5 * Ab)) != 0) = true := bne_iff_ne.mpr c3; obtain ⟨ji4, hji4⟩ : ∃ j_ : Int, (mx 0 (wrap64 (Aj - (wrap64 (Int.tdiv a1 (wrap64 (5 * Ab))))))) = j_ := ⟨_, rfl⟩
  replace H : (some (Ad, Ae, Ai, ji4, Ab)) = some (r1, r2, r3, r4, r5) := by first | (rw [hji4] at H; exact H) | (simp only [hji4] at H ⊢; exact H)
  (try (have hji4l : 0 ≤ ji4 := by (rw [← hji4]; unfold mx; (repeat' split) <;> omega)))
  (try (have hji4m : 0 ≤ ji4 := by omega))
  have hji4_ : (if 0 < (wrap64 (Aj - (wrap64 (Int.tdiv a1 (wrap64 (5 * Ab)))))) then (wrap64 (Aj - (wrap64 (Int.tdiv a1 (wrap64 (5 * Ab)))))) else 0) = ji4 := hji4
  simp only [Option.some.injEq, Prod.mk.injEq] at H
  obtain ⟨rfl, rfl, rfl, rfl, rfl⟩ := H
  go_enter Tryd.func36, Tryd.ntmps36
  try go_wp2_with (first | ((with_reducible refine gate_dst (N := 2) rfl ?_); refine bxE 2 #[.int .i64 Ad, .string Ae, .int .i64 Ai, .int .i64 Aj, .int .i64 Ab] 30 ?_; intro Af hg w5 hbox hb; have Aa := aM (hbox); have Bk := gwS hg Z1; have Ak := gwS hg Z1; replace HB := hbS Z1 hb; clear hb hbox hg) | ((with_reducible refine gate_dst (N := 4) rfl ?_); refine bxE 4 #[.int .i64 0, .string (⟨#[]⟩ : ByteArray), .int .i64 0, .int .i64 0, .int .i64 0] 30 ?_; intro Al hg w6 hbox hb; have Ag := aM (hbox); have Bl := gwS hg Z80; have Am := gwS hg Z80; replace HB := hbS Z80 hb; have Ah := nbL hg Aa; have Ac := nbG hg Aa; replace Aa := bkB Aa hb; clear hb hbox hg))
  replace Aa := aM (blk_drew Aa.out); replace Ag := aM (blk_drew Ag.out); replace HB := aM (below_drew1 HB.out); refine start_ (n := 11) (S := fun w' => w'.cell? ⟨Af, 0, none⟩ = some (.int .i64 Ad) ∧ w'.cell? ⟨Af, 1, none⟩ = some (.string Ae) ∧ w'.cell? ⟨Af, 2, none⟩ = some (.int .i64 Ai) ∧ w'.cell? ⟨Af, 3, none⟩ = some (.int .i64 Aj) ∧ w'.cell? ⟨Af, 4, none⟩ = some (.int .i64 Ab)) (ds := [10]) #[false, false, false, false, false, false, false, false, false, false, false] Z52 rfl rfl ⟨(blk_cell Aa.out 0).trans rfl, (blk_cell Aa.out 1).trans rfl, (blk_cell Aa.out 2).trans rfl, (blk_cell Aa.out 3).trans rfl, (blk_cell Aa.out 4).trans rfl⟩ (fun hHeld => ?_); refine with_tabW impl_Shade_faded.tab1 impl_Shade_faded.bits1 (fun HT_ HW_ => ?_)
  generalize w6.drew = w7 at Aa Ag HB hHeld ⊢
  refine puR 0 5 #[true, false, false, false, false, false, false, false, false, false, false] HT_ rfl rfl ?_; refine puR 2 7 #[true, false, true, false, false, false, false, false, false, false, false] HT_ rfl rfl ?_; refine puR 3 8 #[true, false, true, true, false, false, false, false, false, false, false] HT_ rfl rfl ?_; refine taR 1 6 #[true, true, true, true, false, false, false, false, false, false, false] HT_ HW_ hHeld rfl rfl ?_; refine taR 4 9 #[true, true, true, true, true, false, false, false, false, false, false] HT_ HW_ hHeld rfl rfl ?_; refine puR 5 10 #[true, true, true, true, true, true, false, false, false, false, false] HT_ rfl rfl ?_; refine puR 6 11 #[true, true, true, true, true, true, true, false, false, false, false] HT_ rfl rfl ?_; refine puR 7 12 #[true, true, true, true, true, true, true, true, false, false, false] HT_ rfl rfl ?_; refine puR 8 13 #[true, true, true, true, true, true, true, true, true, false, false] HT_ rfl rfl ?_; refine puR 9 14 #[true, true, true, true, true, true, true, true, true, true, false] HT_ rfl rfl ?_; refine last_ (i := 10) (N := none) #[true, true, true, true, true, true, true, true, true, true, true] rfl rfl (one_of HT_.out Z52) (by decide) (fun K hK => ?_); have hs8 : w7.cell? ⟨Af, 3, none⟩ = some (.int .i64 Aj) := (blk_cell Aa.out 3).trans rfl; have hfs8 := blk_frozen Aa.out 3; have hns8_1 := Ac.out; have hms8_1 := Ah.out; refine skip_ (w1 := ?_) (by rfl) rfl ?_ ?_
  rotate_left
  ·go_simp
   rfl
  refine hK.out _ _ ?_; clear hK K; refine done_ (done_of HT_.out Z52) ?_; have Bm := Ah.out; have Bn := Ac.out; obtain ⟨An, Ao, Ap, Aq, Ar⟩ := bz5 Aa; obtain ⟨Au, Av, Aw, Ax, Ay⟩ := fz5 Aa; obtain ⟨Az, Ba, Bb, Bc, Bd⟩ := bz5 Ag; obtain ⟨Bf, Bg, Bh, Bi, Bj⟩ := fz5 Ag
  try go_wp2
  refine bodyPost_ret (results_cell_row rfl _ _ Al 30 #[.int .i64 Ad, .string Ae, .int .i64 Ai, .int .i64 ji4, .int .i64 Ab] (0, 0) _ rfl (by (with_reducible repeat (first | refine blk_drewN ?_ _ | refine blk_drew ?_ | refine blk_alloc ?_ _)); refine blk_put (cs := #[.int .i64 Ad, .string Ae, .int .i64 Ai, .int .i64 ji4, .int .i64 0]) ?_ 4 _ rfl; (with_reducible repeat (first | refine blk_drewN ?_ _ | refine blk_drew ?_ | refine blk_alloc ?_ _)); refine blk_put (cs := #[.int .i64 Ad, .string Ae, .int .i64 Ai, .int .i64 0, .int .i64 0]) ?_ 3 _ rfl; (with_reducible repeat (first | refine blk_drewN ?_ _ | refine blk_drew ?_ | refine blk_alloc ?_ _)); refine blk_put (cs := #[.int .i64 Ad, .string Ae, .int .i64 0, .int .i64 0, .int .i64 0]) ?_ 2 _ rfl; (with_reducible repeat (first | refine blk_drewN ?_ _ | refine blk_drew ?_ | refine blk_alloc ?_ _)); refine blk_put (cs := #[.int .i64 Ad, .string (⟨#[]⟩ : ByteArray), .int .i64 0, .int .i64 0, .int .i64 0]) ?_ 1 _ rfl; (with_reducible repeat (first | refine blk_drewN ?_ _ | refine blk_drew ?_ | refine blk_alloc ?_ _)); refine blk_put (cs := #[.int .i64 0, .string (⟨#[]⟩ : ByteArray), .int .i64 0, .int .i64 0, .int .i64 0]) ?_ 0 _ rfl; (with_reducible repeat (first | refine blk_drewN ?_ _ | refine blk_drew ?_ | refine blk_alloc ?_ _)); refine blk_far ?_ Ac.out _; (with_reducible repeat (first | refine blk_drewN ?_ _ | refine blk_drew ?_ | refine blk_alloc ?_ _)); exact Ag.out) Tryd.underlying30 rfl Z52) rfl ?_
  exact ⟨Z117, by repeat (first | (with_reducible first | exact HB.out | apply below_alloc | apply pw_below_drewN | apply below_drew1 | refine below_set ?_ Ak.out | refine below_set ?_ Am.out) | exact HB.out)⟩
end Go.Proofs.YtedjeeicpppplaaDoor.H
