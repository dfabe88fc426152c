-- by wip/pack.py of this repo
import Derived.Test.YthalifhbjioaeaaDoorZ10Hx0
import Derived.Test.YthalifhbjioaeaaDoorZ10Hx3
import Derived.Test.YthalifhbjioaeaaDoorZ10WWords
import Derived.Test.YthalifhbjioaeaaDoorZ10Short
namespace Go.Proofs.YthalifhbjioaeaaDoor.H
open Go.RowKit Go.Proofs.YthalifhbjioaeaaDoorW.PrintWords
set_option maxHeartbeats 8000000
set_option maxRecDepth 100000
set_option linter.unusedVariables false
set_option linter.unusedSimpArgs false
set_option maxHeartbeats 4000000 in
theorem IndexFunc_wv (p : S26 → Bool) (g : Nat) (lb : Array Value) (A : Option Addr) (c : Nat) (xs : List S26) (w : World)
  (eg : ∀ args w, (callFunc g args).run Tryd.prog w = .ok (.enter g args) w) (hr : Kd.C k26 w A xs.length xs)
  (hp : ∀ (W : World) (x : S26), Below w.heap.size w W → Calls Tryd.prog g (#[.agg #[.int .i64 x.f0, .string x.f1, .int .i64 x.f2, .int .i64 x.f3, .int .i64 x.f4]] ++ lb) W fun e w' => e = .returned (.bool (p x)) ∧ Below W.heap.size W w') :
  Calls Tryd.prog 101 #[.slice A xs.length c, .func (.func g) #[] lb] w fun e w' => e = .returned (.int .i64 (findI p xs)) ∧ Below w.heap.size w w' := by
 have hu_ := Tryd.underlying26; have hlen := Aside0.mk hr.2.1; have HR := Aside0.mk hr; have HP := Aside0.mk hp; clear hr hp
 go_enter Tryd.func101, Tryd.ntmps101
 go_wp2
 go_loopg [5, 8] xs.length (fun gg _ s8 wr => ∃ x : Int, s8 = .int .i64 x ∧ Aside0 (0 ≤ x ∧ x ≤ (xs.length : Int) ∧ (xs.length : Int) - x ≤ gg) ∧ Aside0 (Below w.heap.size w wr) ∧ Aside0 (∀ j : Nat, (j : Int) < x → p (xs.getD j z26) = false))
 case atStart => exact ⟨0, rfl, ⟨by omega, by omega, by omega⟩, ⟨Below.refl _ _⟩, ⟨fun j hj => absurd hj (by omega)⟩⟩
 case round =>
  obtain ⟨x, rfl, HX, BW, HA⟩ := hrel
  by_cases hlt : x < (xs.length : Int)
  ·have c0 : decide (x < (xs.length : Int)) = true := decide_eq_true hlt
   obtain ⟨ad, e0, Aa, Ab, Ac, Ad, Ae⟩ := at_T26 (Kd.C_below HR.out BW.out) x HX.out.1 hlt; cases e0; have c1 : decide (0 ≤ x) = true := decide_eq_true HX.out.1; have p0 := eq_true HX.out.1; have p1 := eq_true hlt; have HL := Aside0.mk hlt; clear hlt; have hcall := HP.out _ (rd_T26 xs x) BW.out; have hget : Aside0 (xs.getD x.toNat z26 = (rd_T26 xs x)) := ⟨rfl⟩; cases hq : p (rd_T26 xs x) with
   | true =>
    rw [hq] at hcall; have HQ := Aside0.mk hq; have HC := Aside0.mk hcall; clear hq hcall
    go_wp2_with fail
    refine HC.out.mono ?_; rintro e w' ⟨rfl, hb'⟩; have HB := aM (below_step BW.out hb'); clear hb'
    go_wp2
    go_ret
    refine ⟨?_, HB.out⟩; rw [findI_hit p z26 xs x.toNat Z110 (fun j hj => HA.out j (by have := HX.out; omega)) (by rw [hget.out]; exact HQ.out)]; rw [Int.toNat_of_nonneg HX.out.1]
    rfl
   | false =>
    rw [hq] at hcall; have HQ := Aside0.mk hq; have HC := Aside0.mk hcall; clear hq hcall
    go_wp2_with fail
    refine HC.out.mono ?_; rintro e w' ⟨rfl, hb'⟩; have HB := aM (below_step BW.out hb'); clear hb'
    go_wp2
    have hw1 : wrap64 (x + 1) = x + 1 := by have := HX.out; have := HL.out; have := hlen.out; unfold wrap64; omega
    go_roundg (xs.length - (x.toNat + 1))
    case measure => have := HX.out; have := HL.out; omega
    case rel =>
     refine ⟨x + 1, by first | rfl | rw [hw1] | simp [hw1], ⟨by have := HX.out; omega, Z111, Z110⟩, HB, ⟨fun j hj => ?_⟩⟩
     by_cases e : (j : Int) < x
     ·exact HA.out j e
     ·have hj' : j = x.toNat := by have := HX.out; omega
      subst hj'; rw [hget.out]
      exact HQ.out
  ·have c0 : decide (x < (xs.length : Int)) = false := decide_eq_false hlt
   have HL := Aside0.mk hlt; clear hlt
   go_wp2
   go_ret
   refine ⟨?_, BW.out⟩; rw [findI_miss p z26 xs (fun j hj => HA.out j Z111)]
   rfl
set_option maxHeartbeats 4000000 in
theorem ContainsFunc_wv (p : S26 → Bool) (g : Nat) (lb : Array Value) (A : Option Addr) (c : Nat) (xs : List S26) (w : World)
  (eg : ∀ args w, (callFunc g args).run Tryd.prog w = .ok (.enter g args) w) (hr : Kd.C k26 w A xs.length xs)
  (hp : ∀ (W : World) (x : S26), Below w.heap.size w W → Calls Tryd.prog g (#[.agg #[.int .i64 x.f0, .string x.f1, .int .i64 x.f2, .int .i64 x.f3, .int .i64 x.f4]] ++ lb) W fun e w' => e = .returned (.bool (p x)) ∧ Below W.heap.size W w') :
  Calls Tryd.prog 99 #[.slice A xs.length c, .func (.func g) #[] lb] w fun e w' => e = .returned (.bool (xs.any p)) ∧ Below w.heap.size w w' := by
 have HC := aM (IndexFunc_wv p g lb A c xs w eg hr hp); clear hr hp eg; rw [← findI_any]
 go_enter Tryd.func99, Tryd.ntmps99
 go_wp2_with fail
 refine HC.out.mono ?_; rintro e w' ⟨rfl, hb'⟩
 go_wp2
 go_ret
 exact ⟨Z75, hb'⟩
set_option maxHeartbeats 4000000 in
theorem areAll_wv_1 (p : S26 → Bool) (g : Nat) (lb : Array Value) (b : Nat) (x : S26) (W : World)
  (eg : ∀ args w, (callFunc g args).run Tryd.prog w = .ok (.enter g args) w) (hc : W.cell? ⟨b, 0, none⟩ = some (.func (.func g) #[] lb))
  (hp : ∀ W1, Below W.heap.size W W1 → Calls Tryd.prog g (#[.agg #[.int .i64 x.f0, .string x.f1, .int .i64 x.f2, .int .i64 x.f3, .int .i64 x.f4]] ++ lb) W1 fun e w' => e = .returned (.bool (p x)) ∧ Below W1.heap.size W1 w') (hb : b < W.heap.size) :
  Calls Tryd.prog 100 #[.agg #[.int .i64 x.f0, .string x.f1, .int .i64 x.f2, .int .i64 x.f3, .int .i64 x.f4], .pointer (some ⟨b, 0, none⟩)] W fun e w' => e = .returned (.bool (!p x)) ∧ Below W.heap.size W w' := by
 have hu_ := Tryd.underlying26; have HP := Aside0.mk hp; clear hp; have hB1 : Below W.heap.size W (W.alloc (.cells #[.int .i64 x.f0, .string x.f1, .int .i64 x.f2, .int .i64 x.f3, .int .i64 x.f4] 26)) := below_alloc (Below.refl _ _) _; have Aa : (W.alloc (.cells #[.int .i64 x.f0, .string x.f1, .int .i64 x.f2, .int .i64 x.f3, .int .i64 x.f4] 26)).cell? ⟨b, 0, none⟩ = some (.func (.func g) #[] lb) := (hB1.cell (p := ⟨b, 0, none⟩) hb).trans hc; have HB := Aside0.mk hB1; clear hB1 hc
 go_enter Tryd.func100, Tryd.ntmps100
 go_wp2_with fail
 refine (HP.out _ HB.out).mono ?_; rintro e w' ⟨rfl, hb'⟩
 go_wp2
 go_ret
 exact ⟨Z75, below_step HB.out hb'⟩
set_option maxHeartbeats 4000000 in
theorem areAll_wv (p : S26 → Bool) (g : Nat) (lb : Array Value) (A : Option Addr) (c : Nat) (xs : List S26) (w : World)
  (eg : ∀ args w, (callFunc g args).run Tryd.prog w = .ok (.enter g args) w) (hr : Kd.C k26 w A xs.length xs)
  (hp : ∀ (W : World) (x : S26), Below w.heap.size w W → Calls Tryd.prog g (#[.agg #[.int .i64 x.f0, .string x.f1, .int .i64 x.f2, .int .i64 x.f3, .int .i64 x.f4]] ++ lb) W fun e w' => e = .returned (.bool (p x)) ∧ Below W.heap.size W w') :
  Calls Tryd.prog 62 #[.slice A xs.length c, .func (.func g) #[] lb] w fun e w' => e = .returned (.bool (xs.all p)) ∧ Below w.heap.size w w' := by
 have hmf : ∀ (fn : Fn) (first cap : Array Value) (w : World), (Instr.makeFunc fn first cap).run Tryd.prog w = .ok (.func fn first cap) w := fun _ _ _ _ => rfl
 have hB1 : Below w.heap.size w (w.alloc (.cells #[.func (.func g) #[] lb] 25)) := below_alloc (Below.refl _ _) _
 have Aa : (w.alloc (.cells #[.func (.func g) #[] lb] 25)).cell? ⟨w.heap.size, 0, none⟩ = some (.func (.func g) #[] lb) := by simp
 have hsz : w.heap.size < (w.alloc (.cells #[.func (.func g) #[] lb] 25)).heap.size := by simp
 have HC := aM (ContainsFunc_wv (fun x => !p x) 100 #[.pointer (some ⟨w.heap.size, 0, none⟩)] A c xs (w.alloc (.cells #[.func (.func g) #[] lb] 25)) (enters_of Tryd.func100 Z32 rfl) (Kd.C_below hr hB1)
  (fun W x hW => areAll_wv_1 p g lb w.heap.size x W eg ((hW.cell (p := ⟨w.heap.size, 0, none⟩) hsz).trans Aa) (fun W1 h1 => hp W1 x ((hB1.trans (hW.mono hB1.size)).trans (h1.mono (Nat.le_trans hB1.size hW.size)))) (Nat.lt_of_lt_of_le hsz hW.size)))
 have HB := Aside0.mk hB1; rw [← any_not]; clear hB1 Aa hsz hp hr eg
 go_enter Tryd.func62, Tryd.ntmps62
 go_wp2_with fail
 refine HC.out.mono ?_; rintro e w' ⟨rfl, hb'⟩
 go_wp2
 go_ret
 exact ⟨Z75, below_step HB.out hb'⟩
set_option maxHeartbeats 8000000 in
theorem isAscending_wv (of : S26 → Int) (g : Nat) (lb : Array Value) (A : Option Addr) (c : Nat) (xs : List S26) (w : World)
  (eg : ∀ args w, (callFunc g args).run Tryd.prog w = .ok (.enter g args) w) (hr : Kd.C k26 w A xs.length xs)
  (hp : ∀ (W : World) (x : S26), Below w.heap.size w W → Calls Tryd.prog g (#[.agg #[.int .i64 x.f0, .string x.f1, .int .i64 x.f2, .int .i64 x.f3, .int .i64 x.f4]] ++ lb) W fun e w' => e = .returned (.int .i64 (of x)) ∧ Below W.heap.size W w') :
  Calls Tryd.prog 63 #[.slice A xs.length c, .func (.func g) #[] lb] w fun e w' => e = .returned (.bool (asc of xs)) ∧ Below w.heap.size w w' := by
 have hu_ := Tryd.underlying26; have hlen := Aside0.mk hr.2.1; have HR := Aside0.mk hr; have HP := Aside0.mk hp; clear hr hp
 go_enter Tryd.func63, Tryd.ntmps63
 go_wp2
 go_loopg [5] xs.length (fun gg s5 wr => ∃ x : Int, s5 = .int .i64 x ∧ Aside0 (1 ≤ x ∧ (x ≤ (xs.length : Int) ∨ x = 1) ∧ (xs.length : Int) + 1 - x ≤ gg) ∧ Aside0 (Below w.heap.size w wr) ∧ Aside0 (∀ j : Nat, (j : Int) + 1 < x → of (xs.getD j z26) < of (xs.getD (j + 1) z26)))
 case atStart => exact ⟨1, rfl, ⟨by omega, .inr rfl, by omega⟩, ⟨Below.refl _ _⟩, ⟨fun j hj => absurd hj (by omega)⟩⟩
 case round =>
  obtain ⟨x, rfl, HX, BW, HA⟩ := hrel
  by_cases hlt : x < (xs.length : Int)
  ·have c0 : decide (x < (xs.length : Int)) = true := decide_eq_true hlt
   have HL := Aside0.mk hlt; obtain ⟨y, hy⟩ : ∃ y : Int, y = x - 1 := ⟨_, rfl⟩
   have Ac : IntKind.i64.wrap (x - 1) = y := by rw [hy]; exact IntWalk.i64_in _ (by have := HX.out; have := hlen.out; omega)
   have Aa : 0 ≤ y := by have := HX.out; omega
   have Ab : y < (xs.length : Int) := by omega
   have HY := Aside0.mk hy
   have h0 : 0 ≤ x := by omega
   clear hy; obtain ⟨ad, e0, _⟩ := at_T26 (Kd.C_below HR.out BW.out) x h0 hlt; subst e0
   have KEY : Aside0 (∀ W', Below w.heap.size w W' → Below w.heap.size w W' ∧ W'.cell? (ad.add (y.toNat * 5)) = some (.int .i64 (rd_T26 xs y).f0) ∧ W'.cell? ⟨(ad.add (y.toNat * 5)).block, (ad.add (y.toNat * 5)).off + 1, none⟩ = some (.string (rd_T26 xs y).f1) ∧ W'.cell? ⟨(ad.add (y.toNat * 5)).block, (ad.add (y.toNat * 5)).off + 2, none⟩ = some (.int .i64 (rd_T26 xs y).f2) ∧ W'.cell? ⟨(ad.add (y.toNat * 5)).block, (ad.add (y.toNat * 5)).off + 3, none⟩ = some (.int .i64 (rd_T26 xs y).f3) ∧ W'.cell? ⟨(ad.add (y.toNat * 5)).block, (ad.add (y.toNat * 5)).off + 4, none⟩ = some (.int .i64 (rd_T26 xs y).f4) ∧ W'.cell? (ad.add (x.toNat * 5)) = some (.int .i64 (rd_T26 xs x).f0) ∧ W'.cell? ⟨(ad.add (x.toNat * 5)).block, (ad.add (x.toNat * 5)).off + 1, none⟩ = some (.string (rd_T26 xs x).f1) ∧ W'.cell? ⟨(ad.add (x.toNat * 5)).block, (ad.add (x.toNat * 5)).off + 2, none⟩ = some (.int .i64 (rd_T26 xs x).f2) ∧ W'.cell? ⟨(ad.add (x.toNat * 5)).block, (ad.add (x.toNat * 5)).off + 3, none⟩ = some (.int .i64 (rd_T26 xs x).f3) ∧ W'.cell? ⟨(ad.add (x.toNat * 5)).block, (ad.add (x.toNat * 5)).off + 4, none⟩ = some (.int .i64 (rd_T26 xs x).f4)) := ⟨fun W' h => by
    obtain ⟨a1, e1, h1⟩ := at_T26 (Kd.C_below HR.out h) y Aa Ab; obtain ⟨a2, e2, h2⟩ := at_T26 (Kd.C_below HR.out h) x h0 hlt; obtain rfl := Option.some.inj e1; obtain rfl := Option.some.inj e2; obtain ⟨b0, b1, b2, b3, b4⟩ := h1; obtain ⟨d0, d1, d2, d3, d4⟩ := h2
    exact ⟨h, b0, b1, b2, b3, b4, d0, d1, d2, d3, d4⟩⟩
   have HK := KEY.out _ BW.out; obtain ⟨_, b0, b1, b2, b3, b4, d0, d1, d2, d3, d4⟩ := HK
   have hw1 : wrap64 (x + 1) = x + 1 := by have := HX.out; have := HL.out; have := hlen.out; unfold wrap64; omega
   have hg0 : Aside0 (xs.getD x.toNat z26 = (rd_T26 xs x)) := ⟨rfl⟩; have hg1 : Aside0 (xs.getD y.toNat z26 = (rd_T26 xs y)) := ⟨rfl⟩
   by_cases hc : of (rd_T26 xs x) ≤ of (rd_T26 xs y)
   ·have c1 : decide (of (rd_T26 xs x) ≤ of (rd_T26 xs y)) = true := decide_eq_true hc
    have HC := Aside0.mk hc; clear hc
    go_wp2_with fail
    go_region_held3 (fun W' => Below w.heap.size w W' ∧ W'.cell? (ad.add (y.toNat * 5)) = some (.int .i64 (rd_T26 xs y).f0) ∧ W'.cell? ⟨(ad.add (y.toNat * 5)).block, (ad.add (y.toNat * 5)).off + 1, none⟩ = some (.string (rd_T26 xs y).f1) ∧ W'.cell? ⟨(ad.add (y.toNat * 5)).block, (ad.add (y.toNat * 5)).off + 2, none⟩ = some (.int .i64 (rd_T26 xs y).f2) ∧ W'.cell? ⟨(ad.add (y.toNat * 5)).block, (ad.add (y.toNat * 5)).off + 3, none⟩ = some (.int .i64 (rd_T26 xs y).f3) ∧ W'.cell? ⟨(ad.add (y.toNat * 5)).block, (ad.add (y.toNat * 5)).off + 4, none⟩ = some (.int .i64 (rd_T26 xs y).f4) ∧ W'.cell? (ad.add (x.toNat * 5)) = some (.int .i64 (rd_T26 xs x).f0) ∧ W'.cell? ⟨(ad.add (x.toNat * 5)).block, (ad.add (x.toNat * 5)).off + 1, none⟩ = some (.string (rd_T26 xs x).f1) ∧ W'.cell? ⟨(ad.add (x.toNat * 5)).block, (ad.add (x.toNat * 5)).off + 2, none⟩ = some (.int .i64 (rd_T26 xs x).f2) ∧ W'.cell? ⟨(ad.add (x.toNat * 5)).block, (ad.add (x.toNat * 5)).off + 3, none⟩ = some (.int .i64 (rd_T26 xs x).f3) ∧ W'.cell? ⟨(ad.add (x.toNat * 5)).block, (ad.add (x.toNat * 5)).off + 4, none⟩ = some (.int .i64 (rd_T26 xs x).f4))
     ((refine KEY.out _ ?_; first | ((repeat (first | exact BW.out | assumption | exact (‹Below w.heap.size w _ ∧ _›).1 | apply below_drew1 | apply pw_below_drewN)); done) | (refine below_step ?_ hb'; (repeat (first | exact BW.out | assumption | exact (‹Below w.heap.size w _ ∧ _›).1 | apply below_drew1 | apply pw_below_drewN)); done)))
     (first | (go_at_fn g; refine Calls.mono (HP.out _ _ ?_) ?_; (repeat (first | exact BW.out | assumption | exact (‹Below w.heap.size w _ ∧ _›).1 | apply below_drew1 | apply pw_below_drewN)); rintro e w' ⟨rfl, hb'⟩))
    have HB : Aside0 (Below w.heap.size w w') := ⟨(‹Below w.heap.size w w' ∧ _›).1⟩
    go_wp2
    go_ret
    refine ⟨?_, HB.out⟩; rw [asc_false of z26 xs y.toNat (by have := HX.out; have := HY.out; have := HL.out; omega) (by rw [show y.toNat + 1 = x.toNat by have := HX.out; have := HY.out; omega, hg0.out, hg1.out]; exact HC.out)]
    rfl
   ·have c1 : decide (of (rd_T26 xs x) ≤ of (rd_T26 xs y)) = false := decide_eq_false hc
    have HC := Aside0.mk hc; clear hc
    go_wp2_with fail
    go_region_held3 (fun W' => Below w.heap.size w W' ∧ W'.cell? (ad.add (y.toNat * 5)) = some (.int .i64 (rd_T26 xs y).f0) ∧ W'.cell? ⟨(ad.add (y.toNat * 5)).block, (ad.add (y.toNat * 5)).off + 1, none⟩ = some (.string (rd_T26 xs y).f1) ∧ W'.cell? ⟨(ad.add (y.toNat * 5)).block, (ad.add (y.toNat * 5)).off + 2, none⟩ = some (.int .i64 (rd_T26 xs y).f2) ∧ W'.cell? ⟨(ad.add (y.toNat * 5)).block, (ad.add (y.toNat * 5)).off + 3, none⟩ = some (.int .i64 (rd_T26 xs y).f3) ∧ W'.cell? ⟨(ad.add (y.toNat * 5)).block, (ad.add (y.toNat * 5)).off + 4, none⟩ = some (.int .i64 (rd_T26 xs y).f4) ∧ W'.cell? (ad.add (x.toNat * 5)) = some (.int .i64 (rd_T26 xs x).f0) ∧ W'.cell? ⟨(ad.add (x.toNat * 5)).block, (ad.add (x.toNat * 5)).off + 1, none⟩ = some (.string (rd_T26 xs x).f1) ∧ W'.cell? ⟨(ad.add (x.toNat * 5)).block, (ad.add (x.toNat * 5)).off + 2, none⟩ = some (.int .i64 (rd_T26 xs x).f2) ∧ W'.cell? ⟨(ad.add (x.toNat * 5)).block, (ad.add (x.toNat * 5)).off + 3, none⟩ = some (.int .i64 (rd_T26 xs x).f3) ∧ W'.cell? ⟨(ad.add (x.toNat * 5)).block, (ad.add (x.toNat * 5)).off + 4, none⟩ = some (.int .i64 (rd_T26 xs x).f4))
     ((refine KEY.out _ ?_; first | ((repeat (first | exact BW.out | assumption | exact (‹Below w.heap.size w _ ∧ _›).1 | apply below_drew1 | apply pw_below_drewN)); done) | (refine below_step ?_ hb'; (repeat (first | exact BW.out | assumption | exact (‹Below w.heap.size w _ ∧ _›).1 | apply below_drew1 | apply pw_below_drewN)); done)))
     (first | (go_at_fn g; refine Calls.mono (HP.out _ _ ?_) ?_; (repeat (first | exact BW.out | assumption | exact (‹Below w.heap.size w _ ∧ _›).1 | apply below_drew1 | apply pw_below_drewN)); rintro e w' ⟨rfl, hb'⟩))
    have HB : Aside0 (Below w.heap.size w w') := ⟨(‹Below w.heap.size w w' ∧ _›).1⟩
    go_wp2
    go_roundg (xs.length - x.toNat)
    case measure => have := HX.out; have := HL.out; omega
    case rel =>
     refine ⟨x + 1, by first | rfl | rw [hw1] | simp [hw1], ⟨by have := HX.out; omega, Z111, Z110⟩, HB, ⟨fun j hj => ?_⟩⟩
     by_cases e : (j : Int) + 1 < x
     ·exact HA.out j e
     ·have hj' : j = y.toNat := by have := HX.out; have := HY.out; omega
      subst hj'; rw [show y.toNat + 1 = x.toNat by have := HX.out; have := HY.out; omega, hg0.out, hg1.out]; have := HC.out
      omega
  ·have c0 : decide (x < (xs.length : Int)) = false := decide_eq_false hlt
   have HL := Aside0.mk hlt; clear hlt
   go_wp2
   go_ret
   refine ⟨?_, BW.out⟩; rw [asc_true of z26 xs (fun j hj => HA.out j Z111)]
   rfl
def impl_AreWeavers_1.f (a0_0 : Int) (a0_1 : ByteArray) (a0_2 : Int) (a0_3 : Int) (a0_4 : Int) : Option (Int) := some a0_0
theorem impl_AreWeavers_1.calls (Aa : Int) (Ac : ByteArray) (Ad : Int) (Ae : Int) (Af : Int) (r : Int) (w : World) (h : impl_AreWeavers_1.f Aa Ac Ad Ae Af = some r) :
  Calls Tryd.prog 64 #[.agg #[.int .i64 Aa, .string Ac, .int .i64 Ad, .int .i64 Ae, .int .i64 Af]] w fun e w' => e = .returned (.int .i64 r) ∧ Below w.heap.size w w' := by
 have hu26 := Tryd.underlying26; have HB := aM (Below.refl w.heap.size w); have H : (some Aa) = some r := h; clear h; obtain rfl := Option.some.inj H
 go_enter Tryd.func64, Tryd.ntmps64
 go_wp2_with (first | ((with_reducible refine gate_dst (N := 1) rfl ?_); refine bxE 1 #[.int .i64 Aa, .string Ac, .int .i64 Ad, .int .i64 Ae, .int .i64 Af] 26 ?_; intro Ar hg w2 hbox hb; have Ab := aM (hbox); have Au := gwS hg Z0; have Ag := gwS hg Z0; replace HB := hbS Z0 hb; clear hb hbox hg; obtain ⟨Ah, Ai, Aj, Ak, Al⟩ := bz5 Ab; obtain ⟨Am, An, Ao, Ap, Aq⟩ := fz5 Ab))
 go_ret
 exact ⟨Z14, Z87⟩
def impl_sitters.l0 : Nat → Int → Int → List (S26) → Int → Int → Option (Int)
 | 0, _, _, _, _, _ => none
 | k + 1, x1, x5, x8, x9, x10 => if x10 < x9 then (if 0 ≤ x10 then (if x10 < (x8.length : Int) then (if ((rd_T26 x8 x10).f4) = x1 then (impl_sitters.l0 k x1 (wrap64 (x5 + 1)) x8 x9 (wrap64 (x10 + 1))) else (impl_sitters.l0 k x1 x5 x8 x9 (wrap64 (x10 + 1)))) else (none)) else (none)) else (some x5)
def impl_sitters.f (k : Nat) (l0 : List (S26)) (a1 : Int) : Option (Int) := impl_sitters.l0 k a1 0 l0 (l0.length : Int) 0
theorem impl_sitters.calls (k : Nat) (A0 : Option Addr) (c0 : Nat) (l0 : List (S26)) (a1 : Int) (r : Int) (w : World) (Bk : Kd.C k26 w A0 l0.length l0) (Bl : l0.length ≤ c0) (h : impl_sitters.f k l0 a1 = some r) :
  Calls Tryd.prog 66 #[.slice A0 l0.length c0, .int .i64 a1] w fun e w' => e = .returned (.int .i64 r) ∧ Below w.heap.size w w' := by
 have hu26 := Tryd.underlying26; have Bm := Aside0.mk Bk; have Bo := Aside0.mk Bl; clear Bk Bl; have HB := aM (Below.refl w.heap.size w); have H : (impl_sitters.l0 k a1 0 l0 (l0.length : Int) 0) = some r := h; clear h; have H' := Aside0.mk H; clear H
 go_enter Tryd.func66, Tryd.ntmps66
 go_wp2
 go_loopg [5, 10] k (fun kq v5 Bn w' => ∃ (Aj : Int) (Aa : Int), v5 = .int .i64 Aj ∧ Bn = .int .i64 Aa ∧ Aside0 (impl_sitters.l0 kq a1 Aj l0 (l0.length : Int) Aa = some r) ∧ Aside0 (kq ≤ k) ∧ Aside0 (Below w.heap.size w w'))
 case atStart => exact ⟨(0), (0), Z15, Z15, H', ⟨Nat.le_refl _⟩, ⟨Z0⟩⟩
 case round =>
  clear H'; (try clear p2); obtain ⟨Aj, Aa, rfl, rfl, HA, HK1, HB⟩ := hrel; cases gk with
  | zero => exact absurd HA.out (by simp [impl_sitters.l0])
  | succ k1 =>
   have H := HA.out; clear HA
   simp only [impl_sitters.l0] at H
   by_cases c3 : Aa < (l0.length : Int)
   ·rw [if_pos c3] at H
    have c3b0 : decide (Aa < (l0.length : Int)) = true := decide_eq_true c3; clear c3
    by_cases c4 : 0 ≤ Aa
    ·rw [if_pos c4] at H
     have c4b0 : decide (0 ≤ Aa) = true := decide_eq_true c4; clear c4
     by_cases c5 : Aa < (l0.length : Int)
     ·rw [if_pos c5] at H
      have c5b0 : decide (Aa < (l0.length : Int)) = true := decide_eq_true c5; clear c5
      by_cases c6 : ((rd_T26 l0 Aa).f4) = a1
      ·rw [if_pos c6] at H
       have c6b0 : (((rd_T26 l0 Aa).f4) == a1) = true := beq_iff_eq.mpr c6; have c6b1 : (((rd_T26 l0 Aa).f4) != a1) = false := bne_eq_false_iff_eq.mpr c6; clear c6; have H' := Aside0.mk H; clear H; have Ah : 0 ≤ (Aa : Int) := of_decide_eq_true Z10; have Ai : Aa < (l0.length : Int) := of_decide_eq_true Z10; obtain ⟨ad158, e158, Ab, Ac, Ad, Ae, Af⟩ := at_T26 Bm.out Aa Ah Ai; cases e158; replace Ab := (HB.out.cell (World.block_lt_of_cell? w _ Ab)).trans Ab; replace Ac := (HB.out.cell (World.block_lt_of_cell? w _ Ac)).trans Ac; replace Ad := (HB.out.cell (World.block_lt_of_cell? w _ Ad)).trans Ad; replace Ae := (HB.out.cell (World.block_lt_of_cell? w _ Ae)).trans Ae; replace Af := (HB.out.cell (World.block_lt_of_cell? w _ Af)).trans Af; replace Ah := eq_true Ah; replace Ai := eq_true Ai
       go_wp2_with (first | ((with_reducible refine gate_dst (N := 7) rfl ?_); refine bxE 7 #[.int .i64 0, .string (⟨#[]⟩ : ByteArray), .int .i64 0, .int .i64 0, .int .i64 0] 26 ?_; intro Al hg w7 hbox hb; have Ag := aM (hbox); have Am := gwS hg Z0; have Ak := gwS hg Z0; replace HB := hbS Z0 hb; clear hb hbox hg; obtain ⟨Az, Ba, Bb, Bc, Bd⟩ := bz5 Ag; obtain ⟨Bf, Bg, Bh, Bi, Bj⟩ := fz5 Ag))
       go_roundg k1
       case measure => have := HK1.out; omega
       case rel => exact ⟨(wrap64 (Aj + 1)), (wrap64 (Aa + 1)), Z15, Z15, H', ⟨Z66⟩, ⟨Z22⟩⟩
      ·rw [if_neg c6] at H
       have c6b0 : (((rd_T26 l0 Aa).f4) == a1) = false := beq_eq_false_iff_ne.mpr c6; have c6b1 : (((rd_T26 l0 Aa).f4) != a1) = true := bne_iff_ne.mpr c6; have H' := Aside0.mk H; clear H; have Ah : 0 ≤ (Aa : Int) := of_decide_eq_true Z10; have Ai : Aa < (l0.length : Int) := of_decide_eq_true Z10; obtain ⟨ad158, e158, Ab, Ac, Ad, Ae, Af⟩ := at_T26 Bm.out Aa Ah Ai; cases e158; replace Ab := (HB.out.cell (World.block_lt_of_cell? w _ Ab)).trans Ab; replace Ac := (HB.out.cell (World.block_lt_of_cell? w _ Ac)).trans Ac; replace Ad := (HB.out.cell (World.block_lt_of_cell? w _ Ad)).trans Ad; replace Ae := (HB.out.cell (World.block_lt_of_cell? w _ Ae)).trans Ae; replace Af := (HB.out.cell (World.block_lt_of_cell? w _ Af)).trans Af; replace Ah := eq_true Ah; replace Ai := eq_true Ai
       go_wp2_with (first | ((with_reducible refine gate_dst (N := 7) rfl ?_); refine bxE 7 #[.int .i64 0, .string (⟨#[]⟩ : ByteArray), .int .i64 0, .int .i64 0, .int .i64 0] 26 ?_; intro Al hg w9 hbox hb; have Ag := aM (hbox); have Am := gwS hg Z0; have Ak := gwS hg Z0; replace HB := hbS Z0 hb; clear hb hbox hg; obtain ⟨An, Ao, Ap, Aq, Ar⟩ := bz5 Ag; obtain ⟨Au, Av, Aw, Ax, Ay⟩ := fz5 Ag))
       go_roundg k1
       case measure => have := HK1.out; omega
       case rel => exact ⟨(Aj), (wrap64 (Aa + 1)), Z15, Z15, H', ⟨Z66⟩, ⟨Z22⟩⟩
     ·rw [if_neg c5] at H
      exact absurd H (by simp)
    ·rw [if_neg c4] at H
     exact absurd H (by simp)
   ·rw [if_neg c3] at H
    have c3b0 : decide (Aa < (l0.length : Int)) = false := decide_eq_false c3; clear c3; obtain rfl := Option.some.inj H
    go_wp2
    go_ret
    exact ⟨Z14, Z0⟩
def sitN (l : List (S26)) (a : Int) : Int := ((l.filter fun x => decide (x.f4 = a)).length : Int)
theorem sitN_l0 (l : List (S26)) (a : Int) (hl : l.length ≤ 1000000) (d : Nat) : ∀ (k i : Nat) (s : Int), i + d = l.length → d < k → s = (((l.take i).filter fun x => decide (x.f4 = a)).length : Int) → impl_sitters.l0 k a s l (l.length : Int) (i : Int) = some (sitN l a) := by
 induction d with
 | zero =>
  intro k i s hi hk hs; obtain ⟨k, rfl⟩ : ∃ m, k = m + 1 := ⟨k - 1, by omega⟩; rw [impl_sitters.l0, if_neg (by omega), hs, List.take_of_length_le (by omega)]
  rfl
 | succ d ih =>
  intro k i s hi hk hs; obtain ⟨k, rfl⟩ : ∃ m, k = m + 1 := ⟨k - 1, by omega⟩
  have hlt : i < l.length := by omega
  have hle : ((l.take i).filter fun x => decide (x.f4 = a)).length ≤ (l.take i).length := List.length_filter_le _ _; have hle2 : (l.take i).length ≤ i := List.length_take_le _ _; have et : l.take (i + 1) = l.take i ++ [l[i]] := List.take_succ_eq_append_getElem hlt
  have e0 : rd_T26 l (i : Int) = l[i] := by
   show l.getD ((i : Int)).toNat z26 = l[i]
   rw [Int.toNat_natCast, List.getD_eq_getElem?_getD, List.getElem?_eq_getElem hlt]
   rfl
  have e1 : wrap64 ((i : Int) + 1) = ((i + 1 : Nat) : Int) := by unfold wrap64; omega
  have e2 : wrap64 (s + 1) = s + 1 := by unfold wrap64; omega
  rw [impl_sitters.l0, if_pos (by omega), if_pos (by omega), if_pos (by omega), e0, e1, e2]
  by_cases c : l[i].f4 = a
  ·rw [if_pos c]
   refine ih k (i + 1) (s + 1) (by omega) (by omega) ?_; rw [et, List.filter_append, List.length_append, hs]
   simp [c]
  ·rw [if_neg c]
   refine ih k (i + 1) s (by omega) (by omega) ?_; rw [et, List.filter_append, List.length_append, hs]
   simp [c]
theorem sitN_total (l : List (S26)) (a : Int) (hl : l.length ≤ 1000000) : impl_sitters.f (l.length + 1) l a = some (sitN l a) := sitN_l0 l a hl l.length (l.length + 1) 0 0 (by omega) (by omega) (by simp)
def seatOk (l : List (S26)) (x : S26) : Bool := decide (x.f4 = 0) || decide (sitN l x.f4 ≤ 3)
def idWv (x : S26) : Int := x.f0
theorem areWeavers_2 (l : List (S26)) (hl : l.length ≤ 1000000) (A0 : Option Addr) (c0 : Nat) (b : Nat) (x : S26) (W : World) (hr : Kd.C k26 W A0 l.length l) (Aa : l.length ≤ c0) (hc : W.cell? ⟨b, 0, none⟩ = some (.slice A0 l.length c0)) (hb : b < W.heap.size) :
  Calls Tryd.prog 65 #[.agg #[.int .i64 x.f0, .string x.f1, .int .i64 x.f2, .int .i64 x.f3, .int .i64 x.f4], .pointer (some ⟨b, 0, none⟩)] W fun e w' => e = .returned (.bool (seatOk l x)) ∧ Below W.heap.size W w' := by
 have hu_ := Tryd.underlying26; have hB1 : Below W.heap.size W (W.alloc (.cells #[.int .i64 x.f0, .string x.f1, .int .i64 x.f2, .int .i64 x.f3, .int .i64 x.f4] 26)) := below_alloc (Below.refl _ _) _; have Ab : (W.alloc (.cells #[.int .i64 x.f0, .string x.f1, .int .i64 x.f2, .int .i64 x.f3, .int .i64 x.f4] 26)).cell? ⟨b, 0, none⟩ = some (.slice A0 l.length c0) := (hB1.cell (p := ⟨b, 0, none⟩) hb).trans hc; have hS := impl_sitters.calls (l.length + 1) A0 c0 l x.f4 (sitN l x.f4) (W.alloc (.cells #[.int .i64 x.f0, .string x.f1, .int .i64 x.f2, .int .i64 x.f3, .int .i64 x.f4] 26)) (Kd.C_below hr hB1) Aa (sitN_total l x.f4 hl); have HS := Aside0.mk hS; have HB := Aside0.mk hB1; clear hB1 hc hr hS
 by_cases h0 : x.f4 = 0
 ·have c0 : (x.f4 == 0) = true := beq_iff_eq.2 h0
  have e0 : seatOk l x = true := by unfold seatOk; rw [decide_eq_true h0]; rfl
  rw [e0]; clear e0 h0
  go_enter Tryd.func65, Tryd.ntmps65
  go_wp2
  go_ret
  exact ⟨Z75, HB.out⟩
 ·have c0 : (x.f4 == 0) = false := beq_eq_false_iff_ne.2 h0
  have e0 : seatOk l x = decide (sitN l x.f4 ≤ 3) := by unfold seatOk; rw [decide_eq_false h0]; rfl
  rw [e0]; clear e0 h0
  go_enter Tryd.func65, Tryd.ntmps65
  go_wp2_with fail
  refine HS.out.mono ?_; rintro e w' ⟨rfl, hb'⟩
  go_wp2
  go_ret
  exact ⟨Z75, below_step HB.out hb'⟩
def impl_AreWeavers.f (l0 : List (S26)) : Option Bool := some (decide ((l0.length : Int) ≤ 8) && (l0.all okWv && (asc idWv l0 && l0.all (seatOk l0))))
theorem impl_AreWeavers.calls (A0 : Option Addr) (c0 : Nat) (l0 : List (S26)) (r : Bool) (w : World) (Ab : Kd.C k26 w A0 l0.length l0) (Ad : l0.length ≤ c0) (h : impl_AreWeavers.f l0 = some r) :
  Calls Tryd.prog 22 #[.slice A0 l0.length c0] w fun e w' => e = .returned (.bool r) ∧ Below w.heap.size w w' := by
 have Ae := Option.some.inj h; subst Ae; clear h
 have hmf : ∀ (fn : Fn) (first cap : Array Value) (w : World), (Instr.makeFunc fn first cap).run Tryd.prog w = .ok (.func fn first cap) w := fun _ _ _ _ => rfl
 have hB1 : Below w.heap.size w (w.alloc (.cells #[.slice A0 l0.length c0] 32)) := below_alloc (Below.refl _ _) _
 have hcell : (w.alloc (.cells #[.slice A0 l0.length c0] 32)).cell? ⟨w.heap.size, 0, none⟩ = some (.slice A0 l0.length c0) := by simp
 have hsz : w.heap.size < (w.alloc (.cells #[.slice A0 l0.length c0] 32)).heap.size := by simp
 have h1 : ∀ W, Below w.heap.size w W → _ := fun W hb => areAll_wv okWv 18 #[] A0 c0 l0 W (enters_of Tryd.func18 Z32 rfl) (Kd.C_below Ab hb)
  (fun W x _ => (impl_IsWeaver.calls x.f0 x.f1 x.f2 x.f3 x.f4 _ W (impl_IsWeaver.total x)).mono fun e w' ⟨he, hd⟩ => ⟨he, by first | exact hd | exact hd.below⟩)
 have h2 : ∀ W, Below w.heap.size w W → _ := fun W hb => isAscending_wv idWv 64 #[] A0 c0 l0 W (enters_of Tryd.func64 Z32 rfl) (Kd.C_below Ab hb)
  (fun W x _ => (impl_AreWeavers_1.calls x.f0 x.f1 x.f2 x.f3 x.f4 (idWv x) W rfl).mono fun e w' ⟨he, hd⟩ => ⟨he, by first | exact hd | exact hd.below⟩)
 have h3 : l0.length ≤ 8 → ∀ W, Below (w.heap.size + 1) (w.alloc (.cells #[.slice A0 l0.length c0] 32)) W → _ := fun hl W hb => areAll_wv (seatOk l0) 65 #[.pointer (some ⟨w.heap.size, 0, none⟩)] A0 c0 l0 W (enters_of Tryd.func65 Z32 rfl) (Kd.C_below (Kd.C_below Ab hB1) (hb.mono (by simp)))
  (fun W2 x hb2 => areWeavers_2 l0 (by omega) A0 c0 w.heap.size x W2 (Kd.C_below (Kd.C_below (Kd.C_below Ab hB1) (hb.mono (by simp))) hb2) Ad ((hb2.cell (p := ⟨w.heap.size, 0, none⟩) (Nat.lt_of_lt_of_le hsz Z108)).trans ((hb.cell (p := ⟨w.heap.size, 0, none⟩) (Nat.lt_succ_self _)).trans hcell)) (Nat.lt_of_lt_of_le (Nat.lt_of_lt_of_le hsz Z108) hb2.size))
 have H1 := Aside0.mk h1; have H2 := Aside0.mk h2; have H3 := Aside0.mk h3; have HB := Aside0.mk hB1; have HC := Aside0.mk hcell; have HSZ := Aside0.mk hsz; clear h1 h2 h3 hB1 hcell hsz Ab Ad
 by_cases hn : (l0.length : Int) ≤ 8
 ·have d0 : decide ((l0.length : Int) > 8) = false := decide_eq_false (by omega)
  have d1 : decide (8 < l0.length) = false := decide_eq_false (by omega); have hn8 := aM (show l0.length ≤ 8 by omega); rw [decide_eq_true hn, Bool.true_and]; clear hn; cases hq : l0.all okWv with
  | false =>
   rw [Bool.false_and]; have HQ := Aside0.mk hq; clear hq
   go_enter Tryd.func22, Tryd.ntmps22
   go_wp2_with fail
   refine (H1.out _ HB.out).mono ?_; rintro e w1 ⟨rfl, hb1⟩; have Aa := aM (below_step HB.out hb1); clear hb1; rw [HQ.out]
   go_wp2
   go_ret
   exact ⟨Z75, Aa.out⟩
  | true =>
   rw [Bool.true_and]; have HQ := Aside0.mk hq; clear hq; cases hq2 : asc idWv l0 with
   | false =>
    rw [Bool.false_and]; have HQ2 := Aside0.mk hq2; clear hq2
    go_enter Tryd.func22, Tryd.ntmps22
    go_wp2_with fail
    refine (H1.out _ HB.out).mono ?_; rintro e w1 ⟨rfl, hb1⟩; have hcl := (hb1.cell (p := ⟨w.heap.size, 0, none⟩) HSZ.out).trans HC.out; have Aa := aM (below_step HB.out hb1); clear hb1; rw [HQ.out]
    go_wp2_with fail
    refine (H2.out _ Aa.out).mono ?_; rintro e w2 ⟨rfl, hb2⟩; have Ac := aM (below_step Aa.out hb2); clear hb2; rw [HQ2.out]
    go_wp2
    go_ret
    exact ⟨Z75, Ac.out⟩
   | true =>
    rw [Bool.true_and]; have HQ2 := Aside0.mk hq2; clear hq2
    go_enter Tryd.func22, Tryd.ntmps22
    go_wp2_with fail
    refine (H1.out _ HB.out).mono ?_; rintro e w1 ⟨rfl, hb1⟩; have hcl := (hb1.cell (p := ⟨w.heap.size, 0, none⟩) HSZ.out).trans HC.out; have Aa := aM (below_step HB.out hb1); have HV2 := aM (show Below (w.heap.size + 1) (w.alloc (.cells #[.slice A0 l0.length c0] 32)) w1 from hb1.mono (by simp)); clear hb1; rw [HQ.out]
    go_wp2_with fail
    refine (H2.out _ Aa.out).mono ?_; rintro e w2 ⟨rfl, hb2⟩; have hcl2 := (hb2.cell (p := ⟨w.heap.size, 0, none⟩) (Nat.lt_of_lt_of_le HSZ.out (by have := HV2.out.size; simpa using this))).trans hcl; have Ac := aM (below_step Aa.out hb2); have HV3 := aM (show Below (w.heap.size + 1) (w.alloc (.cells #[.slice A0 l0.length c0] 32)) w2 from HV2.out.trans (hb2.mono (by have := HV2.out.size; simpa using this))); clear hb2 hcl; rw [HQ2.out]
    go_wp2_with fail
    refine (H3.out hn8.out _ HV3.out).mono ?_; rintro e w3 ⟨rfl, hb3⟩
    go_wp2
    go_ret
    exact ⟨Z75, below_step Ac.out hb3⟩
 ·have d0 : decide ((l0.length : Int) > 8) = true := decide_eq_true (by omega)
  have d1 : decide (8 < l0.length) = true := decide_eq_true (by omega); rw [decide_eq_false hn, Bool.false_and]; clear hn
  go_enter Tryd.func22, Tryd.ntmps22
  go_wp2
  go_ret
  exact ⟨Z75, HB.out⟩
end Go.Proofs.YthalifhbjioaeaaDoor.H
