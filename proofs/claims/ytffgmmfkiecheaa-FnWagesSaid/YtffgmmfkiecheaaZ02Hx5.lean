-- by wip/pack.py of this repo
import Derived.Test.YtffgmmfkiecheaaZ02Hx0
import Derived.Test.YtffgmmfkiecheaaZ02Hx4
import Derived.Test.YtffgmmfkiecheaaZ02WApart
import Derived.Test.YtffgmmfkiecheaaZ02WKept
import Derived.Test.YtffgmmfkiecheaaZ02WLast
import Derived.Test.YtffgmmfkiecheaaZ02WMore
import Derived.Test.YtffgmmfkiecheaaZ02WWords
import Derived.Test.YtffgmmfkiecheaaZ02Short
namespace Go.Proofs.Ytffgmmfkiecheaa.H
open Go.RowKit Go.Proofs.YtffgmmfkiecheaaW.PrintWords Go.Proofs.YtffgmmfkiecheaaW.PrintLast Go.Proofs.YtffgmmfkiecheaaW.PrintMore
attribute [local go_sem] max2_int min2_int max_two min_two max_three min_three max_four min_four
set_option maxHeartbeats 8000000
set_option maxRecDepth 100000
set_option linter.unusedVariables false
set_option linter.unusedSimpArgs false
set_option maxHeartbeats 8000000 in
theorem isAscending_ws (of : S48 → Int) (g : Nat) (lb : Array Value) (A : Option Addr) (c : Nat) (xs : List S48) (w : World)
  (eg : ∀ args w, (callFunc g args).run Try.prog w = .ok (.enter g args) w) (hr : Kd.C k48 w A xs.length xs)
  (hp : ∀ (W : World) (x : S48), Below w.heap.size w W → Calls Try.prog g (#[.agg #[.int .i64 x.f0, .int .i64 x.f1, .int .i64 x.f2, .int .i64 x.f3, .int .i64 x.f4]] ++ lb) W fun e w' => e = .returned (.int .i64 (of x)) ∧ Below W.heap.size W w') :
  Calls Try.prog 66 #[.slice A xs.length c, .func (.func g) #[] lb] w fun e w' => e = .returned (.bool (asc of xs)) ∧ Below w.heap.size w w' := by
 have hu_ := Try.underlying48; have hlen := Aside0.mk hr.2.1; have HR := Aside0.mk hr; have HP := Aside0.mk hp; clear hr hp
 go_enter Try.func66, Try.ntmps66
 go_wp2
 go_loopg [5] xs.length (fun gg s5 wr => ∃ x : Int, s5 = .int .i64 x ∧ Aside0 (1 ≤ x ∧ (x ≤ (xs.length : Int) ∨ x = 1) ∧ (xs.length : Int) + 1 - x ≤ gg) ∧ Aside0 (Below w.heap.size w wr) ∧ Aside0 (∀ j : Nat, (j : Int) + 1 < x → of (xs.getD j z48) < of (xs.getD (j + 1) z48)))
 case atStart => exact ⟨1, rfl, ⟨by omega, .inr rfl, by omega⟩, ⟨Below.refl _ _⟩, ⟨fun j hj => absurd hj (by omega)⟩⟩
 case round =>
  obtain ⟨x, rfl, HX, BW, HA⟩ := hrel
  by_cases hlt : x < (xs.length : Int)
  ·have c0 : decide (x < (xs.length : Int)) = true := decide_eq_true hlt
   have HL := Aside0.mk hlt; obtain ⟨y, hy⟩ : ∃ y : Int, y = x - 1 := ⟨_, rfl⟩
   have Ac : IntKind.i64.wrap (x - 1) = y := by rw [hy]; exact IntWalk.i64_in _ (by have := HX.out; have := hlen.out; omega)
   have Aa : 0 ≤ y := by have := HX.out; omega
   have Ab : y < (xs.length : Int) := by omega
   have HY := Aside0.mk hy
   have h0 : 0 ≤ x := by omega
   clear hy; obtain ⟨ad, e0, _⟩ := at_T48 (Kd.C_below HR.out BW.out) x h0 hlt; subst e0
   have KEY : Aside0 (∀ W', Below w.heap.size w W' → Below w.heap.size w W' ∧ W'.cell? (ad.add (y.toNat * 5)) = some (.int .i64 (rd_T48 xs y).f0) ∧ W'.cell? ⟨(ad.add (y.toNat * 5)).block, (ad.add (y.toNat * 5)).off + 1, none⟩ = some (.int .i64 (rd_T48 xs y).f1) ∧ W'.cell? ⟨(ad.add (y.toNat * 5)).block, (ad.add (y.toNat * 5)).off + 2, none⟩ = some (.int .i64 (rd_T48 xs y).f2) ∧ W'.cell? ⟨(ad.add (y.toNat * 5)).block, (ad.add (y.toNat * 5)).off + 3, none⟩ = some (.int .i64 (rd_T48 xs y).f3) ∧ W'.cell? ⟨(ad.add (y.toNat * 5)).block, (ad.add (y.toNat * 5)).off + 4, none⟩ = some (.int .i64 (rd_T48 xs y).f4) ∧ W'.cell? (ad.add (x.toNat * 5)) = some (.int .i64 (rd_T48 xs x).f0) ∧ W'.cell? ⟨(ad.add (x.toNat * 5)).block, (ad.add (x.toNat * 5)).off + 1, none⟩ = some (.int .i64 (rd_T48 xs x).f1) ∧ W'.cell? ⟨(ad.add (x.toNat * 5)).block, (ad.add (x.toNat * 5)).off + 2, none⟩ = some (.int .i64 (rd_T48 xs x).f2) ∧ W'.cell? ⟨(ad.add (x.toNat * 5)).block, (ad.add (x.toNat * 5)).off + 3, none⟩ = some (.int .i64 (rd_T48 xs x).f3) ∧ W'.cell? ⟨(ad.add (x.toNat * 5)).block, (ad.add (x.toNat * 5)).off + 4, none⟩ = some (.int .i64 (rd_T48 xs x).f4)) := ⟨fun W' h => by
    obtain ⟨a1, e1, h1⟩ := at_T48 (Kd.C_below HR.out h) y Aa Ab; obtain ⟨a2, e2, h2⟩ := at_T48 (Kd.C_below HR.out h) x h0 hlt; obtain rfl := Option.some.inj e1; obtain rfl := Option.some.inj e2; obtain ⟨b0, b1, b2, b3, b4⟩ := h1; obtain ⟨d0, d1, d2, d3, d4⟩ := h2
    exact ⟨h, b0, b1, b2, b3, b4, d0, d1, d2, d3, d4⟩⟩
   have HK := KEY.out _ BW.out; obtain ⟨_, b0, b1, b2, b3, b4, d0, d1, d2, d3, d4⟩ := HK
   have hw1 : wrap64 (x + 1) = x + 1 := by have := HX.out; have := HL.out; have := hlen.out; unfold wrap64; omega
   have hg0 : Aside0 (xs.getD x.toNat z48 = (rd_T48 xs x)) := ⟨rfl⟩; have hg1 : Aside0 (xs.getD y.toNat z48 = (rd_T48 xs y)) := ⟨rfl⟩
   by_cases hc : of (rd_T48 xs x) ≤ of (rd_T48 xs y)
   ·have c1 : decide (of (rd_T48 xs x) ≤ of (rd_T48 xs y)) = true := decide_eq_true hc
    have HC := Aside0.mk hc; clear hc
    go_wp2_with fail
    go_region_held3 (fun W' => Below w.heap.size w W' ∧ W'.cell? (ad.add (y.toNat * 5)) = some (.int .i64 (rd_T48 xs y).f0) ∧ W'.cell? ⟨(ad.add (y.toNat * 5)).block, (ad.add (y.toNat * 5)).off + 1, none⟩ = some (.int .i64 (rd_T48 xs y).f1) ∧ W'.cell? ⟨(ad.add (y.toNat * 5)).block, (ad.add (y.toNat * 5)).off + 2, none⟩ = some (.int .i64 (rd_T48 xs y).f2) ∧ W'.cell? ⟨(ad.add (y.toNat * 5)).block, (ad.add (y.toNat * 5)).off + 3, none⟩ = some (.int .i64 (rd_T48 xs y).f3) ∧ W'.cell? ⟨(ad.add (y.toNat * 5)).block, (ad.add (y.toNat * 5)).off + 4, none⟩ = some (.int .i64 (rd_T48 xs y).f4) ∧ W'.cell? (ad.add (x.toNat * 5)) = some (.int .i64 (rd_T48 xs x).f0) ∧ W'.cell? ⟨(ad.add (x.toNat * 5)).block, (ad.add (x.toNat * 5)).off + 1, none⟩ = some (.int .i64 (rd_T48 xs x).f1) ∧ W'.cell? ⟨(ad.add (x.toNat * 5)).block, (ad.add (x.toNat * 5)).off + 2, none⟩ = some (.int .i64 (rd_T48 xs x).f2) ∧ W'.cell? ⟨(ad.add (x.toNat * 5)).block, (ad.add (x.toNat * 5)).off + 3, none⟩ = some (.int .i64 (rd_T48 xs x).f3) ∧ W'.cell? ⟨(ad.add (x.toNat * 5)).block, (ad.add (x.toNat * 5)).off + 4, none⟩ = some (.int .i64 (rd_T48 xs x).f4))
     ((refine KEY.out _ ?_; first | ((repeat (first | exact BW.out | assumption | exact (‹Below w.heap.size w _ ∧ _›).1 | apply below_drew1 | apply pw_below_drewN)); done) | (refine below_step ?_ hb'; (repeat (first | exact BW.out | assumption | exact (‹Below w.heap.size w _ ∧ _›).1 | apply below_drew1 | apply pw_below_drewN)); done)))
     (first | (go_at_fn g; refine Calls.mono (HP.out _ _ ?_) ?_; (repeat (first | exact BW.out | assumption | exact (‹Below w.heap.size w _ ∧ _›).1 | apply below_drew1 | apply pw_below_drewN)); rintro e w' ⟨rfl, hb'⟩))
    have HB : Aside0 (Below w.heap.size w w') := ⟨(‹Below w.heap.size w w' ∧ _›).1⟩
    go_wp2
    go_ret
    refine ⟨?_, HB.out⟩; rw [asc_false of z48 xs y.toNat (by have := HX.out; have := HY.out; have := HL.out; omega) (by rw [show y.toNat + 1 = x.toNat by have := HX.out; have := HY.out; omega, hg0.out, hg1.out]; exact HC.out)]
    rfl
   ·have c1 : decide (of (rd_T48 xs x) ≤ of (rd_T48 xs y)) = false := decide_eq_false hc
    have HC := Aside0.mk hc; clear hc
    go_wp2_with fail
    go_region_held3 (fun W' => Below w.heap.size w W' ∧ W'.cell? (ad.add (y.toNat * 5)) = some (.int .i64 (rd_T48 xs y).f0) ∧ W'.cell? ⟨(ad.add (y.toNat * 5)).block, (ad.add (y.toNat * 5)).off + 1, none⟩ = some (.int .i64 (rd_T48 xs y).f1) ∧ W'.cell? ⟨(ad.add (y.toNat * 5)).block, (ad.add (y.toNat * 5)).off + 2, none⟩ = some (.int .i64 (rd_T48 xs y).f2) ∧ W'.cell? ⟨(ad.add (y.toNat * 5)).block, (ad.add (y.toNat * 5)).off + 3, none⟩ = some (.int .i64 (rd_T48 xs y).f3) ∧ W'.cell? ⟨(ad.add (y.toNat * 5)).block, (ad.add (y.toNat * 5)).off + 4, none⟩ = some (.int .i64 (rd_T48 xs y).f4) ∧ W'.cell? (ad.add (x.toNat * 5)) = some (.int .i64 (rd_T48 xs x).f0) ∧ W'.cell? ⟨(ad.add (x.toNat * 5)).block, (ad.add (x.toNat * 5)).off + 1, none⟩ = some (.int .i64 (rd_T48 xs x).f1) ∧ W'.cell? ⟨(ad.add (x.toNat * 5)).block, (ad.add (x.toNat * 5)).off + 2, none⟩ = some (.int .i64 (rd_T48 xs x).f2) ∧ W'.cell? ⟨(ad.add (x.toNat * 5)).block, (ad.add (x.toNat * 5)).off + 3, none⟩ = some (.int .i64 (rd_T48 xs x).f3) ∧ W'.cell? ⟨(ad.add (x.toNat * 5)).block, (ad.add (x.toNat * 5)).off + 4, none⟩ = some (.int .i64 (rd_T48 xs x).f4))
     ((refine KEY.out _ ?_; first | ((repeat (first | exact BW.out | assumption | exact (‹Below w.heap.size w _ ∧ _›).1 | apply below_drew1 | apply pw_below_drewN)); done) | (refine below_step ?_ hb'; (repeat (first | exact BW.out | assumption | exact (‹Below w.heap.size w _ ∧ _›).1 | apply below_drew1 | apply pw_below_drewN)); done)))
     (first | (go_at_fn g; refine Calls.mono (HP.out _ _ ?_) ?_; (repeat (first | exact BW.out | assumption | exact (‹Below w.heap.size w _ ∧ _›).1 | apply below_drew1 | apply pw_below_drewN)); rintro e w' ⟨rfl, hb'⟩))
    have HB : Aside0 (Below w.heap.size w w') := ⟨(‹Below w.heap.size w w' ∧ _›).1⟩
    go_wp2
    go_roundg (xs.length - x.toNat)
    case measure => have := HX.out; have := HL.out; omega
    case rel =>
     refine ⟨x + 1, Z161, ⟨Z160, Z157, Z153⟩, HB, ⟨fun j hj => ?_⟩⟩
     by_cases e : (j : Int) + 1 < x
     ·exact HA.out j e
     ·have hj' : j = y.toNat := by have := HX.out; have := HY.out; omega
      subst hj'; rw [show y.toNat + 1 = x.toNat by have := HX.out; have := HY.out; omega, hg0.out, hg1.out]; have := HC.out
      omega
  ·have c0 : decide (x < (xs.length : Int)) = false := decide_eq_false hlt
   have HL := Aside0.mk hlt; clear hlt
   go_wp2
   go_ret
   refine ⟨?_, BW.out⟩; rw [asc_true of z48 xs (fun j hj => HA.out j Z157)]
   rfl
def impl_AreSheets_1.f (a0_0 : Int) (a0_1 : Int) (a0_2 : Int) (a0_3 : Int) (a0_4 : Int) : Option (Int) := some (wrap64 ((wrap64 (100 * a0_1)) + a0_0))
theorem impl_AreSheets_1.calls (Aa : Int) (Ab : Int) (Ad : Int) (Ae : Int) (Af : Int) (r : Int) (w : World) (h : impl_AreSheets_1.f Aa Ab Ad Ae Af = some r) :
  Calls Try.prog 67 #[.agg #[.int .i64 Aa, .int .i64 Ab, .int .i64 Ad, .int .i64 Ae, .int .i64 Af]] w fun e w' => e = .returned (.int .i64 r) ∧ Below w.heap.size w w' := by
 have hu48 := Try.underlying48; have HB := aM (Below.refl w.heap.size w); have H : (some (wrap64 ((wrap64 (100 * Ab)) + Aa))) = some r := h; clear h; obtain rfl := Option.some.inj H
 go_enter Try.func67, Try.ntmps67
 go_wp2_with (first | ((with_reducible refine gate_dst (N := 1) rfl ?_); refine bxE 1 #[.int .i64 Aa, .int .i64 Ab, .int .i64 Ad, .int .i64 Ae, .int .i64 Af] 48 ?_; intro Ar hg w2 hbox hb; have Ac := aM (hbox); have Au := gwS hg Z1; have Ag := gwS hg Z1; replace HB := hbS Z1 hb; clear hb hbox hg; obtain ⟨Ah, Ai, Aj, Ak, Al⟩ := bz5 Ac; obtain ⟨Am, An, Ao, Ap, Aq⟩ := fz5 Ac))
 go_ret
 exact ⟨Z20, Z29⟩
theorem impl_IsWorkSheet.total (x : S48) : impl_IsWorkSheet.f x.f0 x.f1 x.f2 x.f3 x.f4 = some ((fun x : S48 => (impl_IsWorkSheet.f x.f0 x.f1 x.f2 x.f3 x.f4).getD false) x) := by
 unfold impl_IsWorkSheet.f impl_isId.f impl_isDay.f
 simp only [impl_in.eq, Option.bind_some]
 cases rng x.f0 1 99 <;> cases rng x.f1 0 4000 <;> cases rng x.f2 0 12000 <;> cases rng x.f3 0 x.f2 <;> rfl
theorem impl_AreSheets_1.total (x : S48) : impl_AreSheets_1.f x.f0 x.f1 x.f2 x.f3 x.f4 = some ((fun x : S48 => (impl_AreSheets_1.f x.f0 x.f1 x.f2 x.f3 x.f4).getD 0) x) := by
 unfold impl_AreSheets_1.f
 rfl
def impl_AreSheets.f (l0 : List (S48)) : Option Bool := some (decide ((l0.length : Int) ≤ 12) && (l0.all (fun x : S48 => (impl_IsWorkSheet.f x.f0 x.f1 x.f2 x.f3 x.f4).getD false) && asc (fun x : S48 => (impl_AreSheets_1.f x.f0 x.f1 x.f2 x.f3 x.f4).getD 0) l0))
set_option maxHeartbeats 4000000 in
theorem impl_AreSheets.calls (A0 : Option Addr) (c0 : Nat) (l0 : List (S48)) (r : Bool) (w : World) (Aa : Kd.C k48 w A0 l0.length l0) (Ab : l0.length ≤ c0) (h : impl_AreSheets.f l0 = some r) :
  Calls Try.prog 39 #[.slice A0 l0.length c0] w fun e w' => e = .returned (.bool r) ∧ Below w.heap.size w w' := by
 have Ac := Option.some.inj h; subst Ac; clear h
 have h1 := areAll_ws (fun x : S48 => (impl_IsWorkSheet.f x.f0 x.f1 x.f2 x.f3 x.f4).getD false) 33 #[] A0 c0 l0 w (enters_of Try.func33 Z26 rfl) Aa
  (fun W x _ => (impl_IsWorkSheet.calls x.f0 x.f1 x.f2 x.f3 x.f4 _ W (impl_IsWorkSheet.total x)).mono fun e w' ⟨he, hd⟩ => ⟨he, by first | exact hd | exact hd.below⟩)
 have h2 : ∀ w1, Below w.heap.size w w1 → _ := fun w1 hb => isAscending_ws (fun x : S48 => (impl_AreSheets_1.f x.f0 x.f1 x.f2 x.f3 x.f4).getD 0) 67 #[] A0 c0 l0 w1 (enters_of Try.func67 Z26 rfl) (Kd.C_below Aa hb)
  (fun W x _ => (impl_AreSheets_1.calls x.f0 x.f1 x.f2 x.f3 x.f4 _ W (impl_AreSheets_1.total x)).mono fun e w' ⟨he, hd⟩ => ⟨he, by first | exact hd | exact hd.below⟩)
 have H2 := Aside0.mk h2; clear h2 Aa Ab
 by_cases hn : (l0.length : Int) ≤ 12
 ·have c0 : decide ((l0.length : Int) ≤ 12) = true := decide_eq_true hn
  have c1 : decide (l0.length ≤ 12) = true := decide_eq_true (by omega); rw [c0]; clear hn; cases hq : l0.all (fun x : S48 => (impl_IsWorkSheet.f x.f0 x.f1 x.f2 x.f3 x.f4).getD false) with
  | true =>
   rw [hq] at h1; have H1 := Aside0.mk h1; clear h1 hq
   go_enter Try.func39, Try.ntmps39
   go_wp2_with fail
   refine H1.out.mono ?_; rintro e w1 ⟨rfl, hb1⟩; have HB := Aside0.mk hb1; clear hb1
   go_wp2_with fail
   refine (H2.out _ HB.out).mono ?_; rintro e w2 ⟨rfl, hb2⟩
   go_wp2
   go_ret
   exact ⟨Z140, below_step HB.out hb2⟩
  | false =>
   rw [hq] at h1; have H1 := Aside0.mk h1; clear h1 hq
   go_enter Try.func39, Try.ntmps39
   go_wp2_with fail
   refine H1.out.mono ?_; rintro e w1 ⟨rfl, hb1⟩
   go_wp2
   go_ret
   exact ⟨Z140, hb1⟩
 ·have c0 : decide ((l0.length : Int) ≤ 12) = false := decide_eq_false hn
  have c1 : decide (l0.length ≤ 12) = false := decide_eq_false (by omega); rw [c0]; clear hn h1
  go_enter Try.func39, Try.ntmps39
  go_wp2
  go_ret
  exact ⟨Z140, Below.refl _ _⟩
def lays_slices_Sort_int_int__ren : Go.Shelf.Ren := ⟨fun | 189 => 68 | 125 => 82 | 257 => 81 | 128 => 96 | 129 => 97 | 294 => 87 | 295 => 88 | 296 => 89 | 297 => 90 | 298 => 91 | 299 => 92 | 216 => 93 | 300 => 94 | 301 => 95 | 328 => 99 | 329 => 100 | 330 => 101 | 331 => 102 | 332 => 103 | 215 => 72 | 343 => 105 | n => n, fun | 28 => 26 | 3 => 3 | 46 => 93 | 0 => 0 | 51 => 107 | 53 => 72 | 4 => 4 | 183 => 100 | 182 => 99 | 131 => 45 | 5 => 5 | 9 => 9 | 218 => 109 | 222 => 113 | 228 => 115 | 229 => 67 | n => n, fun | n => n⟩
theorem lays_slices_Sort_int_int_ : Go.Proofs.Lays.n189 Try.prog lays_slices_Sort_int_int__ren := {
 mixed := by kernel_rfl
 f125 := Try.func82.trans (congrArg some Z26)
 f128 := Try.func96.trans (congrArg some Z26)
 f129 := Try.func97.trans (congrArg some Z26)
 f189 := Try.func68.trans (congrArg some Z26)
 f215 := Try.func72.trans (congrArg some Z26)
 f216 := Try.func93.trans (congrArg some Z26)
 f257 := Try.func81.trans (congrArg some Z26)
 f294 := Try.func87.trans (congrArg some Z26)
 f295 := Try.func88.trans (congrArg some Z26)
 f296 := Try.func89.trans (congrArg some Z26)
 f297 := Try.func90.trans (congrArg some Z26)
 f298 := Try.func91.trans (congrArg some Z26)
 f299 := Try.func92.trans (congrArg some Z26)
 f300 := Try.func94.trans (congrArg some Z26)
 f301 := Try.func95.trans (congrArg some Z26)
 f328 := Try.func99.trans (congrArg some Z26)
 f329 := Try.func100.trans (congrArg some Z26)
 f330 := Try.func101.trans (congrArg some Z26)
 f331 := Try.func102.trans (congrArg some Z26)
 f332 := Try.func103.trans (congrArg some Z26)
 f343 := Try.func105.trans (congrArg some Z26)
 t0 := Try.underlying0
 a0 := Try.isAgg0
 z0 := Try.sizeOf0
 v0 := Try.zeroValue0
 t3 := Try.underlying3
 a3 := Try.isAgg3
 z3 := Try.sizeOf3
 v3 := Try.zeroValue3
 t4 := Try.underlying4
 a4 := Try.isAgg4
 z4 := Try.sizeOf4
 v4 := Try.zeroValue4
 t5 := Try.underlying5
 a5 := Try.isAgg5
 z5 := Try.sizeOf5
 v5 := Try.zeroValue5
 t9 := Try.underlying9
 a9 := Try.isAgg9
 z9 := Try.sizeOf9
 v9 := Try.zeroValue9
 t28 := Try.underlying26
 a28 := Try.isAgg26
 z28 := Try.sizeOf26
 v28 := Try.zeroValue26
 t46 := Try.underlying93
 a46 := Try.isAgg93
 z46 := Try.sizeOf93
 v46 := Try.zeroValue93
 t51 := Try.underlying107
 a51 := Try.isAgg107
 z51 := Try.sizeOf107
 v51 := Try.zeroValue107
 t53 := Try.underlying72
 a53 := Try.isAgg72
 z53 := Try.sizeOf72
 v53 := Try.zeroValue72
 t131 := Try.underlying45
 a131 := Try.isAgg45
 z131 := Try.sizeOf45
 v131 := Try.zeroValue45
 t182 := Try.underlying99
 a182 := Try.isAgg99
 z182 := Try.sizeOf99
 v182 := Try.zeroValue99
 t183 := Try.underlying100
 a183 := Try.isAgg100
 z183 := Try.sizeOf100
 v183 := Try.zeroValue100
 t218 := Try.underlying109
 a218 := Try.isAgg109
 z218 := Try.sizeOf109
 v218 := Try.zeroValue109
 t222 := Try.underlying113
 a222 := Try.isAgg113
 z222 := Try.sizeOf113
 v222 := Try.zeroValue113
 t228 := Try.underlying115
 a228 := Try.isAgg115
 z228 := Try.sizeOf115
 v228 := Try.zeroValue115
 t229 := Try.underlying67
 a229 := Try.isAgg67
 z229 := Try.sizeOf67
 v229 := Try.zeroValue67 }
theorem srt_grow {w : World} {os : Array Obj} {k : Nat} (hk : k < w.heap.size) : (Sort.grow w os).heap[k]? = w.heap[k]? := by
 unfold Sort.grow
 exact Array.getElem?_append_left hk
theorem srt_put {w : World} {e base g n cap : Nat} {ok : Nat → Prop} {xs ys : List Int} (h : Kd.R (Kd.int .i64) e w base ok (.slice (some ⟨g, 0, none⟩) n cap) xs) (hl : ys.length = n) (q : Nat) (os : Array Obj) :
  Kd.R (Kd.int .i64) e (Sort.grow ((w.drewN q).setCells g 0 (ys.map (Value.int .i64))) os) base ok (.slice (some ⟨g, 0, none⟩) n cap) ys ∧ w.grownBy (Sort.grow ((w.drewN q).setCells g 0 (ys.map (Value.int .i64))) os) (some g) := by
 obtain ⟨hok, inner, ⟨Ab, Aa⟩, hr⟩ := h
 rcases Aa with ⟨hv, _⟩ | ⟨g', cap', cur, hv, hb, hh, hnc, hcm, hcs, ht⟩
 ·cases hv
 injection hv with ha hn hc; injection ha with ha; injection ha with hg; subst hg; subst hc
 have hgs : g < w.heap.size := by
  rcases Nat.lt_or_ge g w.heap.size with hlt | hge
  ·exact hlt
  ·rw [Array.getElem?_eq_none hge] at hh; cases hh
 have hh' : (w.drewN q).heap[g]? = some (.cells cur e (0, 0)) := hh
 have hcz : cur.size = cap := by rw [hcs]; exact Nat.mul_one _
 obtain ⟨cur', h3, h4, h5⟩ := setCells_row (ys.map (Value.int .i64)) 0 (w.drewN q) cur hh' (by rw [List.length_map]; omega); obtain ⟨s1, s2, s3, s4⟩ := setCells_same g (ys.map (Value.int .i64)) 0 (w.drewN q); have s5 : ((w.drewN q).setCells g 0 (ys.map (Value.int .i64))).heap.size = w.heap.size := s4
 have ht' : cur'.toList.take n = ys.map (Value.int .i64) := by
  rw [h5, List.take_zero, List.nil_append]
  exact List.take_left' (by rw [List.length_map]; exact hl)
 refine ⟨⟨hok, ys.map (Value.int .i64), ⟨?_, .inr ⟨g, cap, cur', ?_, hb, ?_, ?_, hcm, ?_, ?_⟩⟩, ?_, ?_⟩, ⟨s1, s2, s3, ?_, fun k hk hne => ?_⟩⟩
 ·rw [List.length_map]; exact (Nat.mul_one _).symm
 ·rw [hl]
 ·rw [srt_grow (by rw [s5]; exact hgs)]; exact h3
 ·omega
 ·rw [h4, hcs]
 ·rw [hl, show n * (Kd.int .i64).sz = n from Nat.mul_one _]; exact ht'
 ·rw [List.length_map]; exact (Nat.mul_one _).symm
 ·intro m p hp
  have hm : m < ys.length := by
   rcases Nat.lt_or_ge m ys.length with h | h
   ·exact h
   ·rw [List.getElem?_eq_none h] at hp; cases hp
  rw [List.getElem?_eq_getElem hm] at hp; rw [← Option.some.inj hp, show (Kd.int .i64).sz = 1 from rfl, Nat.mul_one, ← List.map_drop, ← List.map_take, List.drop_eq_getElem_cons hm]
  rfl
 ·unfold Sort.grow
  rw [Array.size_append, s5]
  exact Nat.le_add_right _ _
 ·rw [srt_grow (by rw [s5]; exact hk)]
  exact setCells_far _ 0 k (fun e => hne (by rw [e]))
theorem srt_holds {w : World} {e base g n cap : Nat} {ok : Nat → Prop} {xs : List Int} (h : Kd.R (Kd.int .i64) e w base ok (.slice (some ⟨g, 0, none⟩) n cap) xs) : Sort.Holds (Value.int .i64) w g 0 xs.toArray ∧ xs.length = n ∧ n ≤ cap ∧ g < w.heap.size := by
 obtain ⟨hn, hnc, _⟩ := Kd.R_reads' h; obtain ⟨_, inner, ho, hr⟩ := h; refine ⟨fun j hj => ?_, hn.symm, hnc, ?_⟩
 ·have hj' : j < xs.length := by simpa using hj
  have hx := ho.cells (g := g) (by simp [Value.ownBlock]); obtain ⟨cells, hc⟩ := own_typed ho g (by simp [Value.ownBlock]); have hm := hr.2 j _ (List.getElem?_eq_getElem hj')
  have hsz : inner.length = xs.length := by rw [hr.1]; exact Nat.mul_one _
  have hin : inner[j]? = some (.int .i64 xs[j]) := by
   have e1 : (inner.drop (j * (Kd.int .i64).sz)).take (Kd.int .i64).sz = [inner[j]'(by omega)] := by
    rw [show (Kd.int .i64).sz = 1 from rfl, Nat.mul_one, List.drop_eq_getElem_cons (by omega)]
    rfl
   rw [e1] at hm; have hm2 : [inner[j]'(by omega)] = [Value.int .i64 xs[j]] := hm; rw [List.getElem?_eq_getElem (by omega)]; injection hm2 with hm3; rw [hm3]
  refine ⟨?_, ?_⟩
  ·have := hx j _ hin
   rw [add_plain] at this; rw [Nat.zero_add]; rw [this]
   simp [hj']
  ·exact blk_frozen hc _
 ·obtain ⟨cells, hc⟩ := own_typed ho g (by simp [Value.ownBlock])
  rcases Nat.lt_or_ge g w.heap.size with hlt | hge
  ·exact hlt
  ·rw [Array.getElem?_eq_none hge] at hc; cases hc
def slices_Sort_int.f (l0 : List Int) : Option (List Int) := if l0.length < 1000000000000 then some (l0.mergeSort fun x y => decide (x ≤ y)) else none
set_option maxHeartbeats 4000000 in
theorem slices_Sort_int.calls (P0_ : Nat → Prop) (u9000_ : Value) (l0 : List Int) (r : List Int) (w0 w : World) (hB : Below w0.heap.size w0 w) (Aa : Kd.R (Kd.int .i64) 3 w w0.heap.size P0_ u9000_ l0) (h : slices_Sort_int.f l0 = some r) :
  Calls Try.prog 68 #[u9000_] w fun e w' => e = .returned (.tuple #[]) ∧ Kd.R (Kd.int .i64) 3 w' w0.heap.size (fun k_ => (P0_ k_ ∨ w.heap.size ≤ k_)) u9000_ r ∧ Below w0.heap.size w0 w' ∧ Kept w w' (fun k_ => P0_ k_) := by
 unfold slices_Sort_int.f at h
 by_cases hq : l0.length < 1000000000000
 case neg => rw [if_neg hq] at h; cases h
 rw [if_pos hq] at h; obtain rfl := Option.some.inj h
 by_cases hp : 0 < l0.length
 ·obtain ⟨g, cap, rfl, hge, hgl, _⟩ := Kd.R_form Aa hp
  obtain ⟨hH, _, hnc, hg⟩ := srt_holds Aa; have hl : (l0.mergeSort fun x y => decide (x ≤ y)).length = l0.length := List.length_mergeSort _; have hcall : Calls Try.prog 68 #[.slice (some ⟨g, 0, none⟩) l0.length cap] w _ := Any.slices_Sort_int lays_slices_Sort_int_int_ g 0 cap l0 w hH hg (by omega); refine hcall.mono ?_; rintro e w' ⟨rfl, q, os, rfl⟩; have hH' : Sort.Holds (Value.int .i64) w g 0 l0.toArray := hH; rw [Lib.putRow_eq_setCells (Value.int .i64) w g 0 l0.toArray (l0.mergeSort fun x y => decide (x ≤ y)) q hH' (by rw [hl]; simp)]; obtain ⟨hR, hG⟩ := srt_put Aa hl q os
  exact ⟨rfl, Kd.R_mono hR (fun k_ hk => .inl hk), hB.grown hG hB.size (fun k hk => by injection hk with hk; subst hk; exact hge), Kept.of_grown (S := fun k_ => P0_ k_) hG (Kept.refl w _) (fun k_ e_ => .inl (Aa.1 k_ e_))⟩
 ·have hn : l0 = [] := List.eq_nil_of_length_eq_zero (by omega)
  subst hn; obtain ⟨A, c, rfl⟩ := Kd.R_slice Aa; have hcall : Calls Try.prog 68 #[.slice A 0 c] w _ := Any.slices_Sort_int_none lays_slices_Sort_int_int_ A c w; refine hcall.mono ?_; rintro e w' ⟨rfl, rfl⟩; refine ⟨rfl, ?_, hB, Kept.refl _ _⟩; rw [List.mergeSort_nil]
  exact Kd.R_mono Aa (fun k_ hk => .inl hk)
def lays_slices_Compact_int_int__ren : Go.Shelf.Ren := ⟨fun | 20 => 69 | n => n, fun | 22 => 26 | 3 => 3 | 4 => 4 | 0 => 0 | n => n, fun | n => n⟩
theorem lays_slices_Compact_int_int_ : Go.Proofs.Lays2.n20 Try.prog lays_slices_Compact_int_int__ren := {
 mixed := by kernel_rfl
 f20 := Try.func69.trans (congrArg some Z26)
 t0 := Try.underlying0
 a0 := Try.isAgg0
 z0 := Try.sizeOf0
 v0 := Try.zeroValue0
 t3 := Try.underlying3
 a3 := Try.isAgg3
 z3 := Try.sizeOf3
 v3 := Try.zeroValue3
 t4 := Try.underlying4
 a4 := Try.isAgg4
 z4 := Try.sizeOf4
 v4 := Try.zeroValue4
 t22 := Try.underlying26
 a22 := Try.isAgg26
 z22 := Try.sizeOf26
 v22 := Try.zeroValue26
 i3 := Z26}
def slices_Compact_int.f (l0 : List Int) : Option (List Int) := if l0.length < 1000000000000 then some (Lib.compact l0) else none
set_option maxHeartbeats 4000000 in
theorem slices_Compact_int.calls (P0_ : Nat → Prop) (u9000_ : Value) (l0 : List Int) (r : List Int) (w0 w : World) (hB : Below w0.heap.size w0 w) (Aa : Kd.R (Kd.int .i64) 3 w w0.heap.size P0_ u9000_ l0) (h : slices_Compact_int.f l0 = some r) :
  Calls Try.prog 69 #[u9000_] w fun e w' => ∃ v0_ : Value, e = .returned (v0_) ∧ Kd.R (Kd.int .i64) 3 w' w0.heap.size (fun k_ => (P0_ k_ ∨ w.heap.size ≤ k_)) v0_ r ∧ Below w0.heap.size w0 w' ∧ Kept w w' (fun k_ => P0_ k_) := by
 unfold slices_Compact_int.f at h
 by_cases hq : l0.length < 1000000000000
 case neg => rw [if_neg hq] at h; cases h
 rw [if_pos hq] at h; obtain rfl := Option.some.inj h
 by_cases hp : 0 < l0.length
 ·obtain ⟨g, cap, rfl, hge, hgl, _⟩ := Kd.R_form Aa hp
  obtain ⟨hH, _, hnc, hg⟩ := srt_holds Aa; have hle := Lib.compact_length_le l0; have hcall : Calls Try.prog 69 #[.slice (some ⟨g, 0, none⟩) l0.length cap] w _ := Any.slices_Compact_int lays_slices_Compact_int_int_ g 0 cap l0 w hH (by omega) hnc; refine hcall.mono ?_; rintro e w' ⟨rfl, q, rfl⟩
  have hl : (Lib.compact l0 ++ List.replicate (l0.length - (Lib.compact l0).length) 0).length = l0.length := by simp; omega
  rw [Lib.putRow_eq_setCells (Value.int .i64) w g 0 l0.toArray _ q hH (by rw [hl]; simp)]; obtain ⟨hR, hG⟩ := srt_put Aa hl q #[]
  have e0 : Sort.grow ((w.drewN q).setCells g 0 ((Lib.compact l0 ++ List.replicate (l0.length - (Lib.compact l0).length) 0).map (Value.int .i64))) #[] = (w.drewN q).setCells g 0 ((Lib.compact l0 ++ List.replicate (l0.length - (Lib.compact l0).length) 0).map (Value.int .i64)) := by unfold Sort.grow; simp
  rw [e0] at hR hG; have hT := Kd.R_take hR (m := (Lib.compact l0).length) (by rw [hl]; exact hle); rw [List.take_left' rfl] at hT
  exact ⟨_, rfl, Kd.R_mono hT (fun k_ hk => .inl hk), hB.grown hG hB.size (fun k hk => by injection hk with hk; subst hk; exact hge), Kept.of_grown (S := fun k_ => P0_ k_) hG (Kept.refl w _) (fun k_ e_ => .inl (Aa.1 k_ e_))⟩
 ·have hn : l0 = [] := List.eq_nil_of_length_eq_zero (by omega)
  subst hn; obtain ⟨A, c, rfl⟩ := Kd.R_slice Aa; have hcall : Calls Try.prog 69 #[.slice A 0 c] w _ := Any.slices_Compact_int_empty lays_slices_Compact_int_int_ A c w; refine hcall.mono ?_; rintro e w' ⟨rfl, rfl⟩
  exact ⟨_, rfl, Kd.R_mono Aa (fun k_ hk => .inl hk), hB, Kept.refl _ _⟩
def impl_weaversOf.l0 : Nat → List Int → List (S48) → Int → Int → Option (List Int)
 | 0, _, _, _, _ => none
 | k + 1, x3, x7, x8, x9 => if x9 < x8 then (if 0 ≤ x9 then (if x9 < (x7.length : Int) then (if x3.length < 17592186044416 then (impl_weaversOf.l0 k (x3 ++ [(rd_T48 x7 x9).f0]) x7 x8 (wrap64 (x9 + 1))) else (none)) else (none)) else (none)) else ((slices_Sort_int.f x3).bind fun t245 => ((slices_Compact_int.f t245).bind fun t246 => (some t246)))
def impl_weaversOf.f (k : Nat) (l0 : List (S48)) : Option (List Int) := impl_weaversOf.l0 k (([] : List Int)) l0 (l0.length : Int) 0
theorem impl_weaversOf.calls (k : Nat) (A0 : Option Addr) (c0 : Nat) (l0 : List (S48)) (r : List Int) (w : World) (Br : Kd.C k48 w A0 l0.length l0) (Bs : l0.length ≤ c0) (h : impl_weaversOf.f k l0 = some r) :
  Calls Try.prog 40 #[.slice A0 l0.length c0] w fun e w' => ∃ v0_ : Value, e = .returned (v0_) ∧ Kd.R (Kd.int .i64) 3 w' w.heap.size (fun _ => True) v0_ r ∧ Below w.heap.size w w' := by
 have hu48 := Try.underlying48; have Bw := Aside0.mk Br; have B9 := Aside0.mk Bs; clear Br Bs; have HB := aM (Below.refl w.heap.size w); have H : (impl_weaversOf.l0 k (([] : List Int)) l0 (l0.length : Int) 0) = some r := h; clear h; obtain ⟨Aw, Ak⟩ : ∃ y_ : List Int, y_ = (([] : List Int)) := ⟨_, rfl⟩
 replace H : (impl_weaversOf.l0 k Aw l0 (l0.length : Int) 0) = some r := by first | (rw [Ak]; with_reducible exact H) | (have H2_ := (Option.bind_some _ _).symm.trans H; rw [Ak]; with_reducible exact H2_) | (have H2_ := (Option.bind_some _ _).symm.trans H; with_reducible exact H2_) | with_reducible exact H | (rw [Ak]; exact H) | exact H
 have Aq := Aside0.mk Ak; clear Ak; have H' := Aside0.mk H; clear H
 go_enter Try.func40, Try.ntmps40
 go_wp2_with (first | ((with_reducible refine gate_dst (N := 6) rfl ?_); refine Kd.R_lit (Kd.int .i64) _ 3 ?hg (N := 6) ?hd (xs := ([] : List Int)) (inner := []) (ok := fun _ => True) (okp := fun _ => True) ?hr ?hp (fun _ hk => hk) trivial (Below.refl _ _) (Nat.le_refl _) (by simp) ?_; (case hd => rfl); (case hg => rfl); (case hr => first | (go_simp; done) | (go_simp; rfl)); (case hp => exact (Reps.none _ _)); intro Bx w2 Ax hb hg_ hnew_; clear hg_ hnew_; (first | rw [← Aq.out] at Ax | (simp only [Int.reduceToNat] at Ax; rw [← Aq.out] at Ax)); have Ay := aM (Kd.R_lower Ax (below_size Z1)); replace HB := hbS Z1 hb; clear hb Ax))
 go_loopg [3, 9] k (fun kq v3 v9 w' => ∃ (Ab : List Int) (Aa : Int), v9 = .int .i64 Aa ∧ Aside0 (impl_weaversOf.l0 kq Ab l0 (l0.length : Int) Aa = some r) ∧ Aside0 (kq ≤ k) ∧ Aside0 (Kd.R (Kd.int .i64) 3 w' w.heap.size (fun _ => True) v3 Ab) ∧ Aside0 (Below w.heap.size w w'))
 case atStart => exact ⟨(Aw), (0), Z30, H', ⟨Nat.le_refl _⟩, ⟨Z146⟩, ⟨Z1⟩⟩
 case round =>
  clear H'; (try clear p2); obtain ⟨Ab, Aa, rfl, HA, HK1, Ac, HB⟩ := hrel; cases gk with
  | zero => exact absurd HA.out (by simp [impl_weaversOf.l0])
  | succ k1 =>
   have H := HA.out; clear HA
   simp only [impl_weaversOf.l0] at H
   by_cases c4 : Aa < (l0.length : Int)
   ·rw [if_pos c4] at H
    have c4b0 : decide (Aa < (l0.length : Int)) = true := decide_eq_true c4; clear c4
    by_cases c5 : 0 ≤ Aa
    ·rw [if_pos c5] at H
     have c5b0 : decide (0 ≤ Aa) = true := decide_eq_true c5; clear c5
     by_cases c6 : Aa < (l0.length : Int)
     ·rw [if_pos c6] at H
      have c6b0 : decide (Aa < (l0.length : Int)) = true := decide_eq_true c6; clear c6
      by_cases c7 : Ab.length < 17592186044416
      ·rw [if_pos c7] at H
       have LMc7 := Aside0.mk c7; clear c7; obtain ⟨Az, Al⟩ : ∃ y_ : List Int, y_ = (Ab ++ [(rd_T48 l0 Aa).f0]) := ⟨_, rfl⟩
       replace H : (impl_weaversOf.l0 k1 Az l0 (l0.length : Int) (wrap64 (Aa + 1))) = some r := by first | (rw [Al]; with_reducible exact H) | (have H2_ := (Option.bind_some _ _).symm.trans H; rw [Al]; with_reducible exact H2_) | (have H2_ := (Option.bind_some _ _).symm.trans H; with_reducible exact H2_) | with_reducible exact H | (rw [Al]; exact H) | exact H
       have Ba := Aside0.mk Al; clear Al; have H' := Aside0.mk H; clear H; have Ar : 0 ≤ (Aa : Int) := of_decide_eq_true Z21; have Au : Aa < (l0.length : Int) := of_decide_eq_true Z21; obtain ⟨ad240, e240, Af, Ag, Ah, Ai, Aj⟩ := at_T48 Bw.out Aa Ar Au; cases e240; replace Af := (HB.out.cell (World.block_lt_of_cell? w _ Af)).trans Af; replace Ag := (HB.out.cell (World.block_lt_of_cell? w _ Ag)).trans Ag; replace Ah := (HB.out.cell (World.block_lt_of_cell? w _ Ah)).trans Ah; replace Ai := (HB.out.cell (World.block_lt_of_cell? w _ Ai)).trans Ai; replace Aj := (HB.out.cell (World.block_lt_of_cell? w _ Aj)).trans Aj; replace Ar := eq_true Ar; replace Au := eq_true Au
       go_wp2_with (first | ((with_reducible refine gate_dst (N := 5) rfl ?_); refine bxE 5 #[.int .i64 0, .int .i64 0, .int .i64 0, .int .i64 0, .int .i64 0] 48 ?_; intro Ad hg w8 hbox hb; replace Ac := roB Ac hb; have Ae := aM (hbox); have Bt := gwS hg Z1; have Ao := gwS hg Z1; replace HB := hbS Z1 hb; clear hb hbox hg; obtain ⟨Bg, Bh, Bi, Bj, Bk⟩ := bz5 Ae; obtain ⟨Bl, Bm, Bn, Bo, Bp⟩ := fz5 Ae) | ((with_reducible refine gate_builtin (b := .append) (xs := #[.tmp 13, .tmp 16]) rfl ?_); at_builtin; refine Kd.R_append (Kd.int .i64) (w0 := w) w.heap.size rfl (.tmp 13) (.tmp 16) 26 3 (.int .i64 0) 8 rfl Try.underlying26 info3 rfl (by decide) (by omega) u3 Ab ((rd_T48 l0 Aa).f0) [.int .i64 ((rd_T48 l0 Aa).f0)] (fun _ => True) (fun _ => False) rfl (by first | (go_simp; done) | (go_simp; rfl)) ?aP (fun _ hk => hk.elim) ?aF ?aO ?aB ?aS ?aL ?_; (case aP => exact rfl); (case aB => exact Z109); (case aF => exact (fun _ _ => trivial)); (case aO => exact (by (with_reducible repeat (first | apply Kd.R_alloc | apply Kd.R_drewN | apply Kd.R_drew)); exact Kd.R_mono (Kd.R_far (p := ⟨Ad, 4, none⟩) (Kd.R_far (p := ⟨Ad, 3, none⟩) (Kd.R_far (p := ⟨Ad, 2, none⟩) (Kd.R_far (p := ⟨Ad, 1, none⟩) (Kd.R_far (p := ⟨Ad, 0, none⟩) (Kd.R_types Ac.out Ae.out (by decide)) (fun _ hk => hk.2) (.int .i64 ((rd_T48 l0 Aa).f0))) (fun _ hk => hk.2) (.int .i64 ((rd_T48 l0 Aa).f1))) (fun _ hk => hk.2) (.int .i64 ((rd_T48 l0 Aa).f2))) (fun _ hk => hk.2) (.int .i64 ((rd_T48 l0 Aa).f3))) (fun _ hk => hk.2) (.int .i64 ((rd_T48 l0 Aa).f4))) (fun _ hk => trivial))); (case aS => exact (below_size Z109)); (case aL => have := LMc7.out; omega); intro Bz Ca ho hb hg hat; rw [← Ba.out] at ho; replace Ae := aM (blk_grown (g := Ad) (o := .cells #[.int .i64 ((rd_T48 l0 Aa).f0), .int .i64 ((rd_T48 l0 Aa).f1), .int .i64 ((rd_T48 l0 Aa).f2), .int .i64 ((rd_T48 l0 Aa).f3), .int .i64 ((rd_T48 l0 Aa).f4)] 48 (0, 0)) (by (with_reducible repeat (first | refine blk_drewN ?_ _ | refine blk_drew ?_ | refine blk_alloc ?_ _)); refine blk_put (cs := #[.int .i64 ((rd_T48 l0 Aa).f0), .int .i64 ((rd_T48 l0 Aa).f1), .int .i64 ((rd_T48 l0 Aa).f2), .int .i64 ((rd_T48 l0 Aa).f3), .int .i64 0]) ?_ 4 _ rfl; (with_reducible repeat (first | refine blk_drewN ?_ _ | refine blk_drew ?_ | refine blk_alloc ?_ _)); refine blk_put (cs := #[.int .i64 ((rd_T48 l0 Aa).f0), .int .i64 ((rd_T48 l0 Aa).f1), .int .i64 ((rd_T48 l0 Aa).f2), .int .i64 0, .int .i64 0]) ?_ 3 _ rfl; (with_reducible repeat (first | refine blk_drewN ?_ _ | refine blk_drew ?_ | refine blk_alloc ?_ _)); refine blk_put (cs := #[.int .i64 ((rd_T48 l0 Aa).f0), .int .i64 ((rd_T48 l0 Aa).f1), .int .i64 0, .int .i64 0, .int .i64 0]) ?_ 2 _ rfl; (with_reducible repeat (first | refine blk_drewN ?_ _ | refine blk_drew ?_ | refine blk_alloc ?_ _)); refine blk_put (cs := #[.int .i64 ((rd_T48 l0 Aa).f0), .int .i64 0, .int .i64 0, .int .i64 0, .int .i64 0]) ?_ 1 _ rfl; (with_reducible repeat (first | refine blk_drewN ?_ _ | refine blk_drew ?_ | refine blk_alloc ?_ _)); refine blk_put (cs := #[.int .i64 0, .int .i64 0, .int .i64 0, .int .i64 0, .int .i64 0]) ?_ 0 _ rfl; (with_reducible repeat (first | refine blk_drewN ?_ _ | refine blk_drew ?_ | refine blk_alloc ?_ _)); exact Ae.out) hg (Kd.R_ne Ac.out Ae.out (by decide))); replace HB := aM (hb); have Bb := aM (ho); clear Ac; clear ho hb hg hat))
       go_roundg k1
       case measure => have := HK1.out; omega
       case rel => exact ⟨(Az), (wrap64 (Aa + 1)), Z30, H', ⟨Z136⟩, ⟨by (with_reducible repeat (first | apply Kd.R_alloc | apply Kd.R_drewN | apply Kd.R_drew)); exact Bb.out⟩, ⟨Z109⟩⟩
      ·rw [if_neg c7] at H
       exact absurd H (by simp)
     ·rw [if_neg c6] at H
      exact absurd H (by simp)
    ·rw [if_neg c5] at H
     exact absurd H (by simp)
   ·rw [if_neg c4] at H
    have c4b0 : decide (Aa < (l0.length : Int)) = false := decide_eq_false c4; clear c4; replace H := Option.bind_eq_some_iff.mp H; obtain ⟨Av, Bc, H⟩ := H; replace H : ((slices_Compact_int.f Av).bind fun Ap => (some Ap)) = some r := H; have B0 := Aside0.mk Bc; clear Bc; replace H := Option.bind_eq_some_iff.mp H; obtain ⟨Ap, Bd, H⟩ := H; replace H : (some Ap) = some r := H; have B5 := Aside0.mk Bd; clear Bd; obtain rfl := Option.some.inj H; obtain ⟨Am, An, Bq⟩ := Kd.R_slice Ac.out; subst Bq
    go_wp2_with (first | ((with_reducible refine gate_callee (f := 68) rfl ?_); refine glE (some 20) Try.func68 #[.slice Am Ab.length An] ?_; (with_reducible refine (slices_Sort_int.calls (fun k_ => some k_ = (.slice Am Ab.length An : Value).ownBlock) (.slice Am Ab.length An) Ab Av w _ ?side1 ?side2 B0.out).mono ?_); (case side1 => exact Z1); (case side2 => exact Kd.R_tight rfl Ac.out); rintro e Cb ⟨rfl, Bu, hb, hkp⟩; refine ⟨_, rfl, ?_⟩; replace Ac := aM (Kd.R_reok rfl Bu (fun k_ e_ => Ac.out.1 k_ e_)); replace HB := aM (hb); (try clear hb); (try clear hkp); (try clear Bu)) | ((with_reducible refine gate_callee (f := 69) rfl ?_); refine glE (some 22) Try.func69 #[.slice Am Ab.length An] ?_; (with_reducible refine (slices_Compact_int.calls (fun k_ => some k_ = (.slice Am Ab.length An : Value).ownBlock) (.slice Am Ab.length An) Av Ap w _ ?side1 ?side2 B5.out).mono ?_); (case side1 => exact Z1); (case side2 => exact Kd.R_tight rfl Ac.out); rintro e Cc ⟨B7, rfl, Bv, hb, hkp⟩; refine ⟨_, rfl, ?_⟩; have Bf := aM (Kd.R_mono (ok' := fun k_ => True) Bv (fun k_ hk_ => trivial)); replace HB := aM (hb); clear Ac; (try clear hb); (try clear hkp); (try clear Bv)))
    go_ret
    exact ⟨_, Z20, by (with_reducible repeat (first | apply Kd.R_alloc | apply Kd.R_drewN | apply Kd.R_drew)); exact Bf.out, Z1⟩
end Go.Proofs.Ytffgmmfkiecheaa.H
