-- by wip/pack.py of this repo
import Derived.Test.YtplhkmeoeojinaaZ03Hx0
import Derived.Test.YtplhkmeoeojinaaZ03Hx3
import Derived.Test.YtplhkmeoeojinaaZ03Hx10
import Derived.Test.YtplhkmeoeojinaaZ03WApart
import Derived.Test.YtplhkmeoeojinaaZ03WLast
import Derived.Test.YtplhkmeoeojinaaZ03WMore
import Derived.Test.YtplhkmeoeojinaaZ03WN
import Derived.Test.YtplhkmeoeojinaaZ03WWords
import Derived.Test.YtplhkmeoeojinaaZ03Short
namespace Go.Proofs.Ytplhkmeoeojinaa.H
open Go.RowKit Go.Proofs.YtplhkmeoeojinaaW.PrintWords Go.Proofs.YtplhkmeoeojinaaW.PrintLast Go.Proofs.YtplhkmeoeojinaaW.PrintMore
attribute [local go_sem] max2_int min2_int max_two min_two max_three min_three max_four min_four
set_option maxHeartbeats 8000000
set_option maxRecDepth 100000
set_option linter.unusedVariables false
set_option linter.unusedSimpArgs false
set_option maxHeartbeats 4000000 in
theorem areAll_lm_1 (p : S56 → Bool) (g : Nat) (lb : Array Value) (b : Nat) (x : S56) (W : World)
  (eg : ∀ args w, (callFunc g args).run Try.prog w = .ok (.enter g args) w) (hc : W.cell? ⟨b, 0, none⟩ = some (.func (.func g) #[] lb))
  (hp : ∀ W1, Below W.heap.size W W1 → Calls Try.prog g (#[.agg #[.int .i64 x.f0, .int .i64 x.f1, .int .i64 x.f2, .int .i64 x.f3, .int .i64 x.f4]] ++ lb) W1 fun e w' => e = .returned (.bool (p x)) ∧ Below W1.heap.size W1 w') (hb : b < W.heap.size) :
  Calls Try.prog 106 #[.agg #[.int .i64 x.f0, .int .i64 x.f1, .int .i64 x.f2, .int .i64 x.f3, .int .i64 x.f4], .pointer (some ⟨b, 0, none⟩)] W fun e w' => e = .returned (.bool (!p x)) ∧ Below W.heap.size W w' := by
 have hu_ := Try.underlying56; have HP := Aside0.mk hp; clear hp; have hB1 : Below W.heap.size W (W.alloc (.cells #[.int .i64 x.f0, .int .i64 x.f1, .int .i64 x.f2, .int .i64 x.f3, .int .i64 x.f4] 56)) := below_alloc (Below.refl _ _) _; have Aa : (W.alloc (.cells #[.int .i64 x.f0, .int .i64 x.f1, .int .i64 x.f2, .int .i64 x.f3, .int .i64 x.f4] 56)).cell? ⟨b, 0, none⟩ = some (.func (.func g) #[] lb) := (hB1.cell (p := ⟨b, 0, none⟩) hb).trans hc; have HB := Aside0.mk hB1; clear hB1 hc
 go_enter Try.func106, Try.ntmps106
 go_wp2_with fail
 refine (HP.out _ HB.out).mono ?_; rintro e w' ⟨rfl, hb'⟩
 go_wp2
 go_ret
 exact ⟨Z84, below_step HB.out hb'⟩
set_option maxHeartbeats 4000000 in
theorem areAll_lm (p : S56 → Bool) (g : Nat) (lb : Array Value) (A : Option Addr) (c : Nat) (xs : List S56) (w : World)
  (eg : ∀ args w, (callFunc g args).run Try.prog w = .ok (.enter g args) w) (hr : Kd.C k56 w A xs.length xs)
  (hp : ∀ (W : World) (x : S56), Below w.heap.size w W → Calls Try.prog g (#[.agg #[.int .i64 x.f0, .int .i64 x.f1, .int .i64 x.f2, .int .i64 x.f3, .int .i64 x.f4]] ++ lb) W fun e w' => e = .returned (.bool (p x)) ∧ Below W.heap.size W w') :
  Calls Try.prog 74 #[.slice A xs.length c, .func (.func g) #[] lb] w fun e w' => e = .returned (.bool (xs.all p)) ∧ Below w.heap.size w w' := by
 have hmf : ∀ (fn : Fn) (first cap : Array Value) (w : World), (Instr.makeFunc fn first cap).run Try.prog w = .ok (.func fn first cap) w := fun _ _ _ _ => rfl
 have hB1 : Below w.heap.size w (w.alloc (.cells #[.func (.func g) #[] lb] 65)) := below_alloc (Below.refl _ _) _
 have Aa : (w.alloc (.cells #[.func (.func g) #[] lb] 65)).cell? ⟨w.heap.size, 0, none⟩ = some (.func (.func g) #[] lb) := by simp
 have hsz : w.heap.size < (w.alloc (.cells #[.func (.func g) #[] lb] 65)).heap.size := by simp
 have HC := aM (ContainsFunc_lm (fun x => !p x) 106 #[.pointer (some ⟨w.heap.size, 0, none⟩)] A c xs (w.alloc (.cells #[.func (.func g) #[] lb] 65)) (enters_of Try.func106 Z49 rfl) (Kd.C_below hr hB1)
  (fun W x hW => areAll_lm_1 p g lb w.heap.size x W eg ((hW.cell (p := ⟨w.heap.size, 0, none⟩) hsz).trans Aa) (fun W1 h1 => hp W1 x ((hB1.trans (hW.mono hB1.size)).trans (h1.mono (Nat.le_trans hB1.size hW.size)))) (Nat.lt_of_lt_of_le hsz hW.size)))
 have HB := Aside0.mk hB1; rw [← any_not]; clear hB1 Aa hsz hp hr eg
 go_enter Try.func74, Try.ntmps74
 go_wp2_with fail
 refine HC.out.mono ?_; rintro e w' ⟨rfl, hb'⟩
 go_wp2
 go_ret
 exact ⟨Z84, below_step HB.out hb'⟩
set_option maxHeartbeats 8000000 in
theorem isAscending_lm (of : S56 → Int) (g : Nat) (lb : Array Value) (A : Option Addr) (c : Nat) (xs : List S56) (w : World)
  (eg : ∀ args w, (callFunc g args).run Try.prog w = .ok (.enter g args) w) (hr : Kd.C k56 w A xs.length xs)
  (hp : ∀ (W : World) (x : S56), Below w.heap.size w W → Calls Try.prog g (#[.agg #[.int .i64 x.f0, .int .i64 x.f1, .int .i64 x.f2, .int .i64 x.f3, .int .i64 x.f4]] ++ lb) W fun e w' => e = .returned (.int .i64 (of x)) ∧ Below W.heap.size W w') :
  Calls Try.prog 75 #[.slice A xs.length c, .func (.func g) #[] lb] w fun e w' => e = .returned (.bool (asc of xs)) ∧ Below w.heap.size w w' := by
 have hu_ := Try.underlying56; have hlen := Aside0.mk hr.2.1; have HR := Aside0.mk hr; have HP := Aside0.mk hp; clear hr hp
 go_enter Try.func75, Try.ntmps75
 go_wp2
 go_loopg [5] xs.length (fun gg s5 wr => ∃ x : Int, s5 = .int .i64 x ∧ Aside0 (1 ≤ x ∧ (x ≤ (xs.length : Int) ∨ x = 1) ∧ (xs.length : Int) + 1 - x ≤ gg) ∧ Aside0 (Below w.heap.size w wr) ∧ Aside0 (∀ j : Nat, (j : Int) + 1 < x → of (xs.getD j z56) < of (xs.getD (j + 1) z56)))
 case atStart => exact ⟨1, rfl, ⟨by omega, .inr rfl, by omega⟩, ⟨Below.refl _ _⟩, ⟨fun j hj => absurd hj (by omega)⟩⟩
 case round =>
  obtain ⟨x, rfl, HX, BW, HA⟩ := hrel
  by_cases hlt : x < (xs.length : Int)
  ·have c0 : decide (x < (xs.length : Int)) = true := decide_eq_true hlt
   have HL := Aside0.mk hlt; obtain ⟨y, hy⟩ : ∃ y : Int, y = x - 1 := ⟨_, rfl⟩
   have Ac : IntKind.i64.wrap (x - 1) = y := by rw [hy]; exact IntWalk.i64_in _ (by have := HX.out; have := hlen.out; omega)
   have Aa : 0 ≤ y := by have := HX.out; omega
   have Ab : y < (xs.length : Int) := by omega
   have HY := Aside0.mk hy
   have h0 : 0 ≤ x := by omega
   clear hy; obtain ⟨ad, e0, _⟩ := at_T56 (Kd.C_below HR.out BW.out) x h0 hlt; subst e0
   have KEY : Aside0 (∀ W', Below w.heap.size w W' → Below w.heap.size w W' ∧ W'.cell? (ad.add (y.toNat * 5)) = some (.int .i64 (rd_T56 xs y).f0) ∧ W'.cell? ⟨(ad.add (y.toNat * 5)).block, (ad.add (y.toNat * 5)).off + 1, none⟩ = some (.int .i64 (rd_T56 xs y).f1) ∧ W'.cell? ⟨(ad.add (y.toNat * 5)).block, (ad.add (y.toNat * 5)).off + 2, none⟩ = some (.int .i64 (rd_T56 xs y).f2) ∧ W'.cell? ⟨(ad.add (y.toNat * 5)).block, (ad.add (y.toNat * 5)).off + 3, none⟩ = some (.int .i64 (rd_T56 xs y).f3) ∧ W'.cell? ⟨(ad.add (y.toNat * 5)).block, (ad.add (y.toNat * 5)).off + 4, none⟩ = some (.int .i64 (rd_T56 xs y).f4) ∧ W'.cell? (ad.add (x.toNat * 5)) = some (.int .i64 (rd_T56 xs x).f0) ∧ W'.cell? ⟨(ad.add (x.toNat * 5)).block, (ad.add (x.toNat * 5)).off + 1, none⟩ = some (.int .i64 (rd_T56 xs x).f1) ∧ W'.cell? ⟨(ad.add (x.toNat * 5)).block, (ad.add (x.toNat * 5)).off + 2, none⟩ = some (.int .i64 (rd_T56 xs x).f2) ∧ W'.cell? ⟨(ad.add (x.toNat * 5)).block, (ad.add (x.toNat * 5)).off + 3, none⟩ = some (.int .i64 (rd_T56 xs x).f3) ∧ W'.cell? ⟨(ad.add (x.toNat * 5)).block, (ad.add (x.toNat * 5)).off + 4, none⟩ = some (.int .i64 (rd_T56 xs x).f4)) := ⟨fun W' h => by
    obtain ⟨a1, e1, h1⟩ := at_T56 (Kd.C_below HR.out h) y Aa Ab; obtain ⟨a2, e2, h2⟩ := at_T56 (Kd.C_below HR.out h) x h0 hlt; obtain rfl := Option.some.inj e1; obtain rfl := Option.some.inj e2; obtain ⟨b0, b1, b2, b3, b4⟩ := h1; obtain ⟨d0, d1, d2, d3, d4⟩ := h2
    exact ⟨h, b0, b1, b2, b3, b4, d0, d1, d2, d3, d4⟩⟩
   have HK := KEY.out _ BW.out; obtain ⟨_, b0, b1, b2, b3, b4, d0, d1, d2, d3, d4⟩ := HK
   have hw1 : wrap64 (x + 1) = x + 1 := by have := HX.out; have := HL.out; have := hlen.out; unfold wrap64; omega
   have hg0 : Aside0 (xs.getD x.toNat z56 = (rd_T56 xs x)) := ⟨rfl⟩; have hg1 : Aside0 (xs.getD y.toNat z56 = (rd_T56 xs y)) := ⟨rfl⟩
   by_cases hc : of (rd_T56 xs x) ≤ of (rd_T56 xs y)
   ·have c1 : decide (of (rd_T56 xs x) ≤ of (rd_T56 xs y)) = true := decide_eq_true hc
    have HC := Aside0.mk hc; clear hc
    go_wp2_with fail
    go_region_held3 (fun W' => Below w.heap.size w W' ∧ W'.cell? (ad.add (y.toNat * 5)) = some (.int .i64 (rd_T56 xs y).f0) ∧ W'.cell? ⟨(ad.add (y.toNat * 5)).block, (ad.add (y.toNat * 5)).off + 1, none⟩ = some (.int .i64 (rd_T56 xs y).f1) ∧ W'.cell? ⟨(ad.add (y.toNat * 5)).block, (ad.add (y.toNat * 5)).off + 2, none⟩ = some (.int .i64 (rd_T56 xs y).f2) ∧ W'.cell? ⟨(ad.add (y.toNat * 5)).block, (ad.add (y.toNat * 5)).off + 3, none⟩ = some (.int .i64 (rd_T56 xs y).f3) ∧ W'.cell? ⟨(ad.add (y.toNat * 5)).block, (ad.add (y.toNat * 5)).off + 4, none⟩ = some (.int .i64 (rd_T56 xs y).f4) ∧ W'.cell? (ad.add (x.toNat * 5)) = some (.int .i64 (rd_T56 xs x).f0) ∧ W'.cell? ⟨(ad.add (x.toNat * 5)).block, (ad.add (x.toNat * 5)).off + 1, none⟩ = some (.int .i64 (rd_T56 xs x).f1) ∧ W'.cell? ⟨(ad.add (x.toNat * 5)).block, (ad.add (x.toNat * 5)).off + 2, none⟩ = some (.int .i64 (rd_T56 xs x).f2) ∧ W'.cell? ⟨(ad.add (x.toNat * 5)).block, (ad.add (x.toNat * 5)).off + 3, none⟩ = some (.int .i64 (rd_T56 xs x).f3) ∧ W'.cell? ⟨(ad.add (x.toNat * 5)).block, (ad.add (x.toNat * 5)).off + 4, none⟩ = some (.int .i64 (rd_T56 xs x).f4))
     ((refine KEY.out _ ?_; first | ((repeat (first | exact BW.out | assumption | exact (‹Below w.heap.size w _ ∧ _›).1 | apply below_drew1 | apply pw_below_drewN)); done) | (refine below_step ?_ hb'; (repeat (first | exact BW.out | assumption | exact (‹Below w.heap.size w _ ∧ _›).1 | apply below_drew1 | apply pw_below_drewN)); done)))
     (first | (go_at_fn g; refine Calls.mono (HP.out _ _ ?_) ?_; (repeat (first | exact BW.out | assumption | exact (‹Below w.heap.size w _ ∧ _›).1 | apply below_drew1 | apply pw_below_drewN)); rintro e w' ⟨rfl, hb'⟩))
    have HB : Aside0 (Below w.heap.size w w') := ⟨(‹Below w.heap.size w w' ∧ _›).1⟩
    go_wp2
    go_ret
    refine ⟨?_, HB.out⟩; rw [asc_false of z56 xs y.toNat (by have := HX.out; have := HY.out; have := HL.out; omega) (by rw [show y.toNat + 1 = x.toNat by have := HX.out; have := HY.out; omega, hg0.out, hg1.out]; exact HC.out)]
    rfl
   ·have c1 : decide (of (rd_T56 xs x) ≤ of (rd_T56 xs y)) = false := decide_eq_false hc
    have HC := Aside0.mk hc; clear hc
    go_wp2_with fail
    go_region_held3 (fun W' => Below w.heap.size w W' ∧ W'.cell? (ad.add (y.toNat * 5)) = some (.int .i64 (rd_T56 xs y).f0) ∧ W'.cell? ⟨(ad.add (y.toNat * 5)).block, (ad.add (y.toNat * 5)).off + 1, none⟩ = some (.int .i64 (rd_T56 xs y).f1) ∧ W'.cell? ⟨(ad.add (y.toNat * 5)).block, (ad.add (y.toNat * 5)).off + 2, none⟩ = some (.int .i64 (rd_T56 xs y).f2) ∧ W'.cell? ⟨(ad.add (y.toNat * 5)).block, (ad.add (y.toNat * 5)).off + 3, none⟩ = some (.int .i64 (rd_T56 xs y).f3) ∧ W'.cell? ⟨(ad.add (y.toNat * 5)).block, (ad.add (y.toNat * 5)).off + 4, none⟩ = some (.int .i64 (rd_T56 xs y).f4) ∧ W'.cell? (ad.add (x.toNat * 5)) = some (.int .i64 (rd_T56 xs x).f0) ∧ W'.cell? ⟨(ad.add (x.toNat * 5)).block, (ad.add (x.toNat * 5)).off + 1, none⟩ = some (.int .i64 (rd_T56 xs x).f1) ∧ W'.cell? ⟨(ad.add (x.toNat * 5)).block, (ad.add (x.toNat * 5)).off + 2, none⟩ = some (.int .i64 (rd_T56 xs x).f2) ∧ W'.cell? ⟨(ad.add (x.toNat * 5)).block, (ad.add (x.toNat * 5)).off + 3, none⟩ = some (.int .i64 (rd_T56 xs x).f3) ∧ W'.cell? ⟨(ad.add (x.toNat * 5)).block, (ad.add (x.toNat * 5)).off + 4, none⟩ = some (.int .i64 (rd_T56 xs x).f4))
     ((refine KEY.out _ ?_; first | ((repeat (first | exact BW.out | assumption | exact (‹Below w.heap.size w _ ∧ _›).1 | apply below_drew1 | apply pw_below_drewN)); done) | (refine below_step ?_ hb'; (repeat (first | exact BW.out | assumption | exact (‹Below w.heap.size w _ ∧ _›).1 | apply below_drew1 | apply pw_below_drewN)); done)))
     (first | (go_at_fn g; refine Calls.mono (HP.out _ _ ?_) ?_; (repeat (first | exact BW.out | assumption | exact (‹Below w.heap.size w _ ∧ _›).1 | apply below_drew1 | apply pw_below_drewN)); rintro e w' ⟨rfl, hb'⟩))
    have HB : Aside0 (Below w.heap.size w w') := ⟨(‹Below w.heap.size w w' ∧ _›).1⟩
    go_wp2
    go_roundg (xs.length - x.toNat)
    case measure => have := HX.out; have := HL.out; omega
    case rel =>
     refine ⟨x + 1, by first | rfl | rw [hw1] | simp [hw1], ⟨by have := HX.out; omega, Z105, Z103⟩, HB, ⟨fun j hj => ?_⟩⟩
     by_cases e : (j : Int) + 1 < x
     ·exact HA.out j e
     ·have hj' : j = y.toNat := by have := HX.out; have := HY.out; omega
      subst hj'; rw [show y.toNat + 1 = x.toNat by have := HX.out; have := HY.out; omega, hg0.out, hg1.out]; have := HC.out
      omega
  ·have c0 : decide (x < (xs.length : Int)) = false := decide_eq_false hlt
   have HL := Aside0.mk hlt; clear hlt
   go_wp2
   go_ret
   refine ⟨?_, BW.out⟩; rw [asc_true of z56 xs (fun j hj => HA.out j Z105)]
   rfl
def impl_AreLooms_1.f (a0_0 : Int) (a0_1 : Int) (a0_2 : Int) (a0_3 : Int) (a0_4 : Int) : Option (Int) := some a0_0
theorem impl_AreLooms_1.calls (Aa : Int) (Ac : Int) (Ad : Int) (Ae : Int) (Af : Int) (r : Int) (w : World) (h : impl_AreLooms_1.f Aa Ac Ad Ae Af = some r) :
  Calls Try.prog 76 #[.agg #[.int .i64 Aa, .int .i64 Ac, .int .i64 Ad, .int .i64 Ae, .int .i64 Af]] w fun e w' => e = .returned (.int .i64 r) ∧ Below w.heap.size w w' := by
 have hu56 := Try.underlying56; have HB := aM (Below.refl w.heap.size w); have H : (some Aa) = some r := h; clear h; obtain rfl := Option.some.inj H
 go_enter Try.func76, Try.ntmps76
 go_wp2_with (first | ((with_reducible refine gate_dst (N := 1) rfl ?_); refine bxE 1 #[.int .i64 Aa, .int .i64 Ac, .int .i64 Ad, .int .i64 Ae, .int .i64 Af] 56 ?_; intro Ar hg w2 hbox hb; have Ab := aM (hbox); have Au := gwS hg Z0; have Ag := gwS hg Z0; replace HB := hbS Z0 hb; clear hb hbox hg; obtain ⟨Ah, Ai, Aj, Ak, Al⟩ := bz5 Ab; obtain ⟨Am, An, Ao, Ap, Aq⟩ := fz5 Ab))
 go_ret
 exact ⟨Z7, Z9⟩
def impl_IsLoomT.f (a b c d e : Int) : Option Bool := impl_IsLoom.f 1 a b c d e
theorem impl_IsLoomT.calls (a b c d e : Int) (r : Bool) (w : World) (h : impl_IsLoomT.f a b c d e = some r) :
  Calls Try.prog 51 #[.agg #[.int .i64 a, .int .i64 b, .int .i64 c, .int .i64 d, .int .i64 e]] w fun e w' => e = .returned (.bool r) ∧ Below w.heap.size w w' := impl_IsLoom.calls 1 a b c d e r w h
theorem impl_IsLoomT.total (x : S56) : impl_IsLoomT.f x.f0 x.f1 x.f2 x.f3 x.f4 = some ((fun x : S56 => (impl_IsLoomT.f x.f0 x.f1 x.f2 x.f3 x.f4).getD false) x) := by
 unfold impl_IsLoomT.f impl_IsLoom.f impl_isId.f impl_isWide.f
 simp only [impl_in.eq, Option.bind_some, impl_IsLoom.j0]
 cases rng x.f0 1 99 <;> cases rng x.f1 30 600 <;> cases rng x.f2 0 4000 <;> cases rng x.f3 0 500 <;> simp only [if_true, if_false, Bool.false_eq_true, Option.bind_some, Bool.not_true, Bool.not_false, Option.getD_some] <;> (by_cases h0 : x.f4 = 0 <;> by_cases h1 : x.f4 = 1 <;> by_cases h2 : x.f4 = 2 <;> by_cases h3 : x.f2 = 0 <;> cases rng x.f2 10 (wrap64 (12 * x.f1)) <;> simp [h0, h1, h2, h3])
theorem impl_AreLooms_1.total (x : S56) : impl_AreLooms_1.f x.f0 x.f1 x.f2 x.f3 x.f4 = some ((fun x : S56 => (impl_AreLooms_1.f x.f0 x.f1 x.f2 x.f3 x.f4).getD 0) x) := by
 unfold impl_AreLooms_1.f
 rfl
def impl_AreLooms.f (l0 : List (S56)) : Option Bool := some (decide ((l0.length : Int) ≤ 8) && (l0.all (fun x : S56 => (impl_IsLoomT.f x.f0 x.f1 x.f2 x.f3 x.f4).getD false) && asc (fun x : S56 => (impl_AreLooms_1.f x.f0 x.f1 x.f2 x.f3 x.f4).getD 0) l0))
set_option maxHeartbeats 4000000 in
theorem impl_AreLooms.calls (A0 : Option Addr) (c0 : Nat) (l0 : List (S56)) (r : Bool) (w : World) (Aa : Kd.C k56 w A0 l0.length l0) (Ab : l0.length ≤ c0) (h : impl_AreLooms.f l0 = some r) :
  Calls Try.prog 30 #[.slice A0 l0.length c0] w fun e w' => e = .returned (.bool r) ∧ Below w.heap.size w w' := by
 have Ac := Option.some.inj h; subst Ac; clear h
 have h1 := areAll_lm (fun x : S56 => (impl_IsLoomT.f x.f0 x.f1 x.f2 x.f3 x.f4).getD false) 51 #[] A0 c0 l0 w (enters_of Try.func51 Z49 rfl) Aa
  (fun W x _ => (impl_IsLoomT.calls x.f0 x.f1 x.f2 x.f3 x.f4 _ W (impl_IsLoomT.total x)).mono fun e w' ⟨he, hd⟩ => ⟨he, by first | exact hd | exact hd.below⟩)
 have h2 : ∀ w1, Below w.heap.size w w1 → _ := fun w1 hb => isAscending_lm (fun x : S56 => (impl_AreLooms_1.f x.f0 x.f1 x.f2 x.f3 x.f4).getD 0) 76 #[] A0 c0 l0 w1 (enters_of Try.func76 Z49 rfl) (Kd.C_below Aa hb)
  (fun W x _ => (impl_AreLooms_1.calls x.f0 x.f1 x.f2 x.f3 x.f4 _ W (impl_AreLooms_1.total x)).mono fun e w' ⟨he, hd⟩ => ⟨he, by first | exact hd | exact hd.below⟩)
 have H2 := Aside0.mk h2; clear h2 Aa Ab
 by_cases hn : (l0.length : Int) ≤ 8
 ·have c0 : decide ((l0.length : Int) ≤ 8) = true := decide_eq_true hn
  have c1 : decide (l0.length ≤ 8) = true := decide_eq_true (by omega); rw [c0]; clear hn; cases hq : l0.all (fun x : S56 => (impl_IsLoomT.f x.f0 x.f1 x.f2 x.f3 x.f4).getD false) with
  | true =>
   rw [hq] at h1; have H1 := Aside0.mk h1; clear h1 hq
   go_enter Try.func30, Try.ntmps30
   go_wp2_with fail
   refine H1.out.mono ?_; rintro e w1 ⟨rfl, hb1⟩; have HB := Aside0.mk hb1; clear hb1
   go_wp2_with fail
   refine (H2.out _ HB.out).mono ?_; rintro e w2 ⟨rfl, hb2⟩
   go_wp2
   go_ret
   exact ⟨Z84, below_step HB.out hb2⟩
  | false =>
   rw [hq] at h1; have H1 := Aside0.mk h1; clear h1 hq
   go_enter Try.func30, Try.ntmps30
   go_wp2_with fail
   refine H1.out.mono ?_; rintro e w1 ⟨rfl, hb1⟩
   go_wp2
   go_ret
   exact ⟨Z84, hb1⟩
 ·have c0 : decide ((l0.length : Int) ≤ 8) = false := decide_eq_false hn
  have c1 : decide (l0.length ≤ 8) = false := decide_eq_false (by omega); rw [c0]; clear hn h1
  go_enter Try.func30, Try.ntmps30
  go_wp2
  go_ret
  exact ⟨Z84, Below.refl _ _⟩
set_option maxHeartbeats 4000000 in
set_option maxRecDepth 100000 in
theorem findLoom_1 (b : Nat) (x : S56) (a1 : Int) (W : World) (hc : W.cell? ⟨b, 0, none⟩ = some (.int .i64 a1)) (hb : b < W.heap.size) :
  Calls Try.prog 103 #[.agg #[.int .i64 x.f0, .int .i64 x.f1, .int .i64 x.f2, .int .i64 x.f3, .int .i64 x.f4], .pointer (some ⟨b, 0, none⟩)] W fun e w' => e = .returned (.bool (decide (x.f0 = a1))) ∧ Below W.heap.size W w' := by
 have hu_ := Try.underlying56; have hB1 : Below W.heap.size W (W.alloc (.cells #[.int .i64 x.f0, .int .i64 x.f1, .int .i64 x.f2, .int .i64 x.f3, .int .i64 x.f4] 56)) := below_alloc (Below.refl _ _) _; have Aa : (W.alloc (.cells #[.int .i64 x.f0, .int .i64 x.f1, .int .i64 x.f2, .int .i64 x.f3, .int .i64 x.f4] 56)).cell? ⟨b, 0, none⟩ = some (.int .i64 a1) := (hB1.cell (p := ⟨b, 0, none⟩) hb).trans hc; have HB := Aside0.mk hB1; clear hB1 hc
 by_cases h : x.f0 = a1
 ·have d0 : (x.f0 == a1) = true := beq_iff_eq.2 h
  rw [decide_eq_true h]; clear h
  go_enter Try.func103, Try.ntmps103
  go_wp2
  go_ret
  exact ⟨by first | rfl | (simp; done) | (simp [d0]; done), HB.out⟩
 ·have d0 : (x.f0 == a1) = false := beq_eq_false_iff_ne.2 h
  rw [decide_eq_false h]; clear h
  go_enter Try.func103, Try.ntmps103
  go_wp2
  go_ret
  exact ⟨by first | rfl | (simp; done) | (simp [d0]; done), HB.out⟩
def impl_findLoom.f (l0 : List (S56)) (a1 : Int) : Option Int := (impl_AreLooms.f l0).bind fun b => some (if b = true then findI (fun x => decide (x.f0 = a1)) l0 else -1)
theorem impl_findLoom.calls (A0 : Option Addr) (c0 : Nat) (l0 : List (S56)) (a1 : Int) (r : Int) (w : World) (Aa : Kd.C k56 w A0 l0.length l0) (Ab : l0.length ≤ c0) (h : impl_findLoom.f l0 a1 = some r) :
  Calls Try.prog 67 #[.slice A0 l0.length c0, .int .i64 a1] w fun e w' => e = .returned (.int .i64 r) ∧ Below w.heap.size w w' := by
 obtain ⟨b, hb, h1⟩ := Option.bind_eq_some_iff.mp h; obtain rfl := Option.some.inj h1; clear h h1
 have hmf : ∀ (fn : Fn) (first cap : Array Value) (w : World), (Instr.makeFunc fn first cap).run Try.prog w = .ok (.func fn first cap) w := fun _ _ _ _ => rfl
 have hB1 : Below w.heap.size w (w.alloc (.cells #[.int .i64 a1] 3)) := below_alloc (Below.refl _ _) _
 have hcell : (w.alloc (.cells #[.int .i64 a1] 3)).cell? ⟨w.heap.size, 0, none⟩ = some (.int .i64 a1) := by simp
 have hsz : w.heap.size < (w.alloc (.cells #[.int .i64 a1] 3)).heap.size := by simp
 have hA := impl_AreLooms.calls A0 c0 l0 b (w.alloc (.cells #[.int .i64 a1] 3)) (Kd.C_below Aa hB1) Ab hb
 have h3 : ∀ W, Below (w.heap.size + 1) (w.alloc (.cells #[.int .i64 a1] 3)) W → _ := fun W hb => IndexFunc_lm (fun x => decide (x.f0 = a1)) 103 #[.pointer (some ⟨w.heap.size, 0, none⟩)] A0 c0 l0 W (enters_of Try.func103 Z49 rfl) (Kd.C_below (Kd.C_below Aa hB1) (hb.mono (by simp)))
  (fun W2 x hb2 => findLoom_1 w.heap.size x a1 W2 ((hb2.cell (p := ⟨w.heap.size, 0, none⟩) (Nat.lt_of_lt_of_le hsz (by have := hb.size; simpa using this))).trans ((hb.cell (p := ⟨w.heap.size, 0, none⟩) (Nat.lt_succ_self _)).trans hcell)) (Nat.lt_of_lt_of_le (Nat.lt_of_lt_of_le hsz (by have := hb.size; simpa using this)) hb2.size))
 have HA := Aside0.mk hA; have H3 := Aside0.mk h3; have HB := Aside0.mk hB1; clear hA h3 hB1 hcell Aa Ab hb hsz; cases b with
 | false =>
  go_enter Try.func67, Try.ntmps67
  go_wp2_with fail
  refine HA.out.mono ?_; rintro e w1 ⟨rfl, hb1⟩
  go_wp2
  go_ret
  exact ⟨Z84, below_step HB.out hb1⟩
 | true =>
  go_enter Try.func67, Try.ntmps67
  go_wp2_with fail
  refine HA.out.mono ?_; rintro e w1 ⟨rfl, hb1⟩; have Ac := aM (below_step HB.out hb1); have HV := aM (show Below (w.heap.size + 1) (w.alloc (.cells #[.int .i64 a1] 3)) w1 from hb1.mono (by simp)); clear hb1
  go_wp2_with fail
  refine (H3.out _ HV.out).mono ?_; rintro e w2 ⟨rfl, hb2⟩
  go_wp2
  go_ret
  exact ⟨Z84, below_step Ac.out hb2⟩
def slices_Clone_lm.f (l0 : List (S56)) : Option (List (S56)) := if l0.length < 3518437208883 then some l0 else none
theorem slices_Clone_lm.calls (A0 : Option Addr) (c0 : Nat) (l0 : List (S56)) (r : List (S56)) (w : World) (Ab : Kd.C k56 w A0 l0.length l0) (Ae : l0.length ≤ c0) (h : slices_Clone_lm.f l0 = some r) :
  Calls Try.prog 104 #[.slice A0 l0.length c0] w fun e w' => ∃ v0_ : Value, e = .returned (v0_) ∧ Kd.R k56 56 w' w.heap.size (fun _ => True) v0_ r ∧ Below w.heap.size w w' := by
 unfold slices_Clone_lm.f at h
 by_cases hq : l0.length < 3518437208883
 case neg => rw [if_neg hq] at h; cases h
 rw [if_pos hq] at h; obtain rfl := Option.some.inj h; have HQ := Aside0.mk hq; clear h hq; cases A0 with
 | none =>
  have hn : l0 = [] := by
   cases l0 with
   | nil => rfl
   | cons x t => exact absurd (Ab.2.2 (by simp)) (by rintro ⟨ad, e, _⟩; cases e)
  subst hn
  have Ah : ∀ (w : World) (a : Option Addr) (n c n' c' : Nat), (binOp .eql 44 (.slice a n c) (.slice none n' c')).run Try.prog w = .ok (.bool a.isNone) w := fun w a n c n' c' => Lib.run_eql_slice_nil w _ _ a n c n' c' Try.underlying44
  clear Ab Ae
  go_enter Try.func104, Try.ntmps104
  go_wp2
  go_ret
  exact ⟨_, rfl, Kd.R_nil _ _ _ _ _, Below.refl _ _⟩
 | some ad =>
  have Ah : ∀ (w : World) (a : Option Addr) (n c n' c' : Nat), (binOp .eql 44 (.slice a n c) (.slice none n' c')).run Try.prog w = .ok (.bool a.isNone) w := fun w a n c n' c' => Lib.run_eql_slice_nil w _ _ a n c n' c' Try.underlying44
  have Ai := Aside0.mk Ab; clear Ab Ae; have HB := aM (Below.refl w.heap.size w); obtain ⟨y0, Ac⟩ : ∃ y_ : List (S56), y_ = [] := ⟨_, rfl⟩; have LMc := aM (show y0.length + l0.length < 3518437208883 by rw [Ac]; simpa using HQ.out); obtain ⟨y1, Ad⟩ : ∃ y_ : List (S56), y_ = (y0 ++ l0) := ⟨_, rfl⟩
  have e1 : y1 = l0 := by rw [Ad, Ac]; rfl
  have Af := Aside0.mk Ac; have Aj := Aside0.mk Ad; have E1 := Aside0.mk e1; clear Ac Ad e1
  go_enter Try.func104, Try.ntmps104
  go_wp2_with (first | ((with_reducible refine gate_dst (N := 5) rfl ?_); refine Kd.R_lit k56 _ 56 ?hg (N := 5) ?hd (xs := ([] : List (S56))) (inner := []) (ok := fun _ => True) (okp := fun _ => True) ?hr ?hp (fun _ hk => hk) trivial (Below.refl _ _) (Nat.le_refl _) (by simp) ?_; (case hd => rfl); (case hg => rfl); (case hr => first | (go_simp; done) | (go_simp; rfl)); (case hp => exact (Reps.none _ _)); intro v5 w3 Aa hb hg_ hnew_; clear hg_ hnew_; (first | rw [← Af.out] at Aa | (simp only [Int.reduceToNat] at Aa; rw [← Af.out] at Aa)); have Ag := aM (Kd.R_lower Aa (below_size Z0)); replace HB := hbS Z0 hb; clear hb Aa) | ((with_reducible refine gate_builtin (b := .append) (xs := #[.tmp 5, .tmp 6]) rfl ?_); at_builtin; refine Kd.R_append_rows k56 (w0 := w) w.heap.size rfl (.tmp 5) (.tmp 6) 44 56 (.agg #[(.int .i64 0), (.int .i64 0), (.int .i64 0), (.int .i64 0), (.int .i64 0)]) 40 rfl Try.underlying44 info56 rfl (by decide) (by omega) v5 y0 l0 _ _ _ (fun _ => True) (fun _ => False) rfl rfl ?aO ?aR (fun _ _ h => h) (fun _ h => h.elim) ?aF ?aB ?aS ?aL ?_; (case aR => repeat (first | exact (Kd.C_below Ai.out HB.out) | (with_reducible refine Kd.C_alloc ?_ _) | (with_reducible refine Kd.C_drewN ?_ _) | (with_reducible refine Kd.C_drew ?_))); (case aB => exact Z0); (case aF => exact (fun _ _ => trivial)); (case aO => exact (by (with_reducible repeat (first | apply Kd.R_alloc | apply Kd.R_drewN | apply Kd.R_drew)); exact Ag.out)); (case aS => exact (below_size Z0)); (case aL => have := LMc.out; omega); intro v7 w5 ho hb hg hat; rw [← Aj.out] at ho; replace HB := aM (hb); have Ak := aM (ho); clear Ag; clear ho hb hg hat))
  go_ret
  exact ⟨_, Z84, by rw [← E1.out]; (with_reducible repeat (first | apply Kd.R_alloc | apply Kd.R_drewN | apply Kd.R_drew)); exact Ak.out, Z0⟩
def impl_withLoom.f (l0 : List (S56)) (a1 : Int) (a2_0 : Int) (a2_1 : Int) (a2_2 : Int) (a2_3 : Int) (a2_4 : Int) : Option ((List (S56)) × Bool) := (slices_Clone_lm.f l0).bind fun t546 => (if 0 ≤ a1 then (if a1 < (t546.length : Int) then ((some (t546.set (a1 : Int).toNat (⟨a2_0, a2_1, a2_2, a2_3, a2_4⟩ : S56) : List (S56))).bind fun y549 => ((impl_AreLooms.f y549).bind fun t550 => (if t550 = true then (some (y549, true)) else (some (([] : List (S56)), false))))) else (none)) else (none))
theorem impl_withLoom.calls (A0 : Option Addr) (c0 : Nat) (l0 : List (S56)) (a1 : Int) (Ae : Int) (Af : Int) (Ag : Int) (Ah : Int) (Ai : Int) (r1 : List (S56)) (r2 : Bool) (w : World) (Cv : Kd.C k56 w A0 l0.length l0) (Cw : l0.length ≤ c0) (h : impl_withLoom.f l0 a1 Ae Af Ag Ah Ai = some (r1, r2)) :
  Calls Try.prog 70 #[.slice A0 l0.length c0, .int .i64 a1, .agg #[.int .i64 Ae, .int .i64 Af, .int .i64 Ag, .int .i64 Ah, .int .i64 Ai]] w fun e w' => ∃ v0_ : Value, e = .returned (.tuple #[v0_, .bool r2]) ∧ Kd.R k56 56 w' w.heap.size (fun _ => True) v0_ r1 ∧ Below w.heap.size w w' := by
 have hu56 := Try.underlying56; have Cx := Aside0.mk Cv; have Cy := Aside0.mk Cw; clear Cv Cw; have HB := aM (Below.refl w.heap.size w); have H : ((slices_Clone_lm.f l0).bind fun Ab => (if 0 ≤ a1 then (if a1 < (Ab.length : Int) then ((some (Ab.set (a1 : Int).toNat (⟨Ae, Af, Ag, Ah, Ai⟩ : S56) : List (S56))).bind fun Ad => ((impl_AreLooms.f Ad).bind fun Am => (if Am = true then (some (Ad, true)) else (some (([] : List (S56)), false))))) else (none)) else (none))) = some (r1, r2) := h; clear h; replace H := Option.bind_eq_some_iff.mp H; obtain ⟨Ab, Cz, H⟩ := H; replace H : (if 0 ≤ a1 then (if a1 < (Ab.length : Int) then ((some (Ab.set (a1 : Int).toNat (⟨Ae, Af, Ag, Ah, Ai⟩ : S56) : List (S56))).bind fun Ad => ((impl_AreLooms.f Ad).bind fun Am => (if Am = true then (some (Ad, true)) else (some (([] : List (S56)), false))))) else (none)) else (none)) = some (r1, r2) := H; have A4 := Aside0.mk Cz; clear Cz
 by_cases c5 : 0 ≤ a1
 ·rw [if_pos c5] at H
  have c5b0 : decide (0 ≤ a1) = true := decide_eq_true c5; clear c5
  by_cases c6 : a1 < (Ab.length : Int)
  ·rw [if_pos c6] at H
   have c6b0 : decide (a1 < (Ab.length : Int)) = true := decide_eq_true c6; clear c6; obtain ⟨Ad, An⟩ : ∃ y_ : List (S56), y_ = (Ab.set (a1 : Int).toNat (⟨Ae, Af, Ag, Ah, Ai⟩ : S56)) := ⟨_, rfl⟩
   replace H : ((impl_AreLooms.f Ad).bind fun Am => (if Am = true then (some (Ad, true)) else (some (([] : List (S56)), false)))) = some (r1, r2) := by first | (rw [An]; with_reducible exact H) | (have H2_ := (Option.bind_some _ _).symm.trans H; rw [An]; with_reducible exact H2_) | (have H2_ := (Option.bind_some _ _).symm.trans H; with_reducible exact H2_) | with_reducible exact H | (rw [An]; exact H) | exact H
   have Ar := Aside0.mk An; clear An; replace H := Option.bind_eq_some_iff.mp H; obtain ⟨Am, C0, H⟩ := H; replace H : (if Am = true then (some (Ad, true)) else (some (([] : List (S56)), false))) = some (r1, r2) := H; have A8 := Aside0.mk C0; clear C0
   by_cases c9 : Am = true
   ·subst c9
    have H1 : (some (Ad, true)) = some (r1, r2) := by rw [if_pos rfl] at H; exact H
    clear H; have H := H1; clear H1
    simp only [Option.some.injEq, Prod.mk.injEq] at H
    obtain ⟨rfl, rfl⟩ := H
    go_enter Try.func70, Try.ntmps70
    go_wp2_with (first | ((with_reducible refine gate_dst (N := 5) rfl ?_); refine bxE 5 #[.int .i64 Ae, .int .i64 Af, .int .i64 Ag, .int .i64 Ah, .int .i64 Ai] 56 ?_; intro Ak hg C2 hbox hb; have Ac := aM (hbox); have Bs := gwS hg Z0; have Al := gwS hg Z0; replace HB := hbS Z0 hb; clear hb hbox hg) | ((with_reducible refine gate_callee (f := 104) rfl ?_); refine glE (some 10) Try.func104 #[.slice A0 l0.length c0] ?_; (with_reducible refine (slices_Clone_lm.calls _ _ l0 Ab _ ?side1 ?side2 A4.out).mono ?_); (case side1 => exact Z69); (case side2 => exact Cy.out); rintro e Ao ⟨Cs, rfl, Bt, hb⟩; refine ⟨_, rfl, ?_⟩; have Aa := aM (Kd.R_lower (Kd.R_newB Bt (g := Ak) (o := .cells #[.int .i64 Ae, .int .i64 Af, .int .i64 Ag, .int .i64 Ah, .int .i64 Ai] 56 (0, 0)) Z57) (below_size Z14)); replace Ac := bkB Ac hb; replace HB := hbS Z14 hb; (try clear hb); (try clear Bt); obtain ⟨B8, B9, Ca, Cb, Cc⟩ := bz5 Ac; obtain ⟨Cd, Ce, Cf, Cg, Ch⟩ := fz5 Ac; have p7 : 0 ≤ (a1 : Int) := of_decide_eq_true Z5; have q7 : (a1 : Int) < ((Ab.length : Int) : Int) := of_decide_eq_true Z5; obtain ⟨Aj, Au, Bu, Bv, gl7, cl7, HG7⟩ := Kd.R_form Aa.out (by omega); (first | cases Bu | (injection Bu with ea_ en_ ec_; (first | subst ea_ | (injection ea_ with ea_; subst ea_)); subst ec_; clear en_)); have Aq := Aside0.mk Bv; have C1 := Aside0.mk HG7; clear Bv gl7 HG7; obtain ⟨ce7, hcl7, hM7, hcc7, hfr7⟩ := Kd.R_elem Aa.out z56 (a1 : Int) p7 q7; obtain rfl := k56_openM hM7; have Bw : Ao.cell? ⟨Aj, (a1 : Int).toNat * 5, none⟩ = some (.int .i64 ((rd_T56 Ab a1).f0)) := hcc7 0 _ rfl; have Bx : Ao.cell? ⟨Aj, (a1 : Int).toNat * 5 + 1, none⟩ = some (.int .i64 ((rd_T56 Ab a1).f1)) := hcc7 1 _ rfl; have Bz : Ao.cell? ⟨Aj, (a1 : Int).toNat * 5 + 2, none⟩ = some (.int .i64 ((rd_T56 Ab a1).f2)) := hcc7 2 _ rfl; have B0 : Ao.cell? ⟨Aj, (a1 : Int).toNat * 5 + 3, none⟩ = some (.int .i64 ((rd_T56 Ab a1).f3)) := hcc7 3 _ rfl; have B1 : Ao.cell? ⟨Aj, (a1 : Int).toNat * 5 + 4, none⟩ = some (.int .i64 ((rd_T56 Ab a1).f4)) := hcc7 4 _ rfl; have B2 : Ao.frozen? ⟨Aj, (a1 : Int).toNat * 5, none⟩ = false := hfr7 0; have B3 : Ao.frozen? ⟨Aj, (a1 : Int).toNat * 5 + 1, none⟩ = false := hfr7 1; have B5 : Ao.frozen? ⟨Aj, (a1 : Int).toNat * 5 + 2, none⟩ = false := hfr7 2; have B6 : Ao.frozen? ⟨Aj, (a1 : Int).toNat * 5 + 3, none⟩ = false := hfr7 3; have B7 : Ao.frozen? ⟨Aj, (a1 : Int).toNat * 5 + 4, none⟩ = false := hfr7 4; clear hcl7 hcc7 hfr7 hM7; replace p7 := eq_true p7; replace q7 := eq_true q7; have n_ := aM (Kd.R_mono (ok' := (fun k_ => k_ ≠ Ak)) Aa.out (fun k_ hk => hk.2)); clear Aa; have Aa := n_; clear n_; have HX13 := aM (show Kd.R k56 56 Ao w.heap.size (fun k_ => k_ ≠ Ak) (.slice (some ⟨Aj, 0, none⟩) Ab.length Au) Ab from Z51); obtain ⟨ce13, hcl13, hM13, hcc13, hfr13⟩ := Kd.R_elem HX13.out z56 (a1 : Int) (of_decide_eq_true Z5) Z109; obtain rfl := k56_openM hM13; have Av := Kd.R_seg HX13.out (a1 : Int) (of_decide_eq_true Z5) Z109 (seg := [.int .i64 Ae, .int .i64 Af, .int .i64 Ag, .int .i64 Ah, .int .i64 Ai]) (j := 0) hcl13 hcc13 (show 5 ≤ 5 from by decide) (x' := (⟨Ae, Af, Ag, Ah, Ai⟩ : S56)) (k56_mkM _ _ _ (⟨Ae, Af, Ag, Ah, Ai⟩ : S56) ) (fun _ hk => hk); have Aw := hcc13 0 _ rfl; (try simp only [show (k56).sz = 5 from rfl, Nat.mul_one, Nat.add_zero] at Aw); have Ax := hfr13 0; (try simp only [show (k56).sz = 5 from rfl, Nat.mul_one, Nat.add_zero] at Ax); have Ay := hcc13 1 _ rfl; (try simp only [show (k56).sz = 5 from rfl, Nat.mul_one, Nat.add_zero] at Ay); have Az := hfr13 1; (try simp only [show (k56).sz = 5 from rfl, Nat.mul_one, Nat.add_zero] at Az); have Ba := hcc13 2 _ rfl; (try simp only [show (k56).sz = 5 from rfl, Nat.mul_one, Nat.add_zero] at Ba); have Bb := hfr13 2; (try simp only [show (k56).sz = 5 from rfl, Nat.mul_one, Nat.add_zero] at Bb); have Bc := hcc13 3 _ rfl; (try simp only [show (k56).sz = 5 from rfl, Nat.mul_one, Nat.add_zero] at Bc); have Bd := hfr13 3; (try simp only [show (k56).sz = 5 from rfl, Nat.mul_one, Nat.add_zero] at Bd); have Bf := hcc13 4 _ rfl; (try simp only [show (k56).sz = 5 from rfl, Nat.mul_one, Nat.add_zero] at Bf); have Bg := hfr13 4; (try simp only [show (k56).sz = 5 from rfl, Nat.mul_one, Nat.add_zero] at Bg); clear hcl13 hcc13 hfr13 hM13) | ((with_reducible refine gate_store (t := 56) (p := 14) rfl ?_); refine store_event (t := 56) (p := 14) (v := ?vo_w14) (w1 := (((((Ao.setCell ⟨Aj, (a1 : Int).toNat * 5, none⟩ (.int .i64 Ae)).setCell ⟨Aj, (a1 : Int).toNat * 5 + 1, none⟩ (.int .i64 Af)).setCell ⟨Aj, (a1 : Int).toNat * 5 + 2, none⟩ (.int .i64 Ag)).setCell ⟨Aj, (a1 : Int).toNat * 5 + 3, none⟩ (.int .i64 Ah)).setCell ⟨Aj, (a1 : Int).toNat * 5 + 4, none⟩ (.int .i64 Ai))) ?hg ?ho ?hn ?hr ?_; (case ho => rfl); (case hg => rfl); (case hn => rfl); (case hr => first | (go_simp; done) | (go_simp; rfl)); intro Ct hw; have hg : Ao.grownBy Ct (some Aj) := (by rw [hw]; exact Av.2); have hp_ : Kd.R k56 56 Ct w.heap.size (fun k_ => k_ ≠ Ak) (.slice (some ⟨Aj, 0, none⟩) Ab.length Au) Ad := (by rw [hw, Ar.out]; exact Av.1); clear Av; replace Ac := aM (blk_grown (g := Ak) (o := .cells #[.int .i64 Ae, .int .i64 Af, .int .i64 Ag, .int .i64 Ah, .int .i64 Ai] 56 (0, 0)) Z57 hg (Kd.R_away Aa.out (fun _ hk => hk))); replace Aa := aM (hp_); replace HB := aM ((Z85 : Below w.heap.size w Ct)); clear hg hw hp_) | ((with_reducible refine gate_callee (f := 30) rfl ?_); refine goesL_ (some 16) rfl rfl Try.func30 Z49 rfl #[.slice (some ⟨Aj, 0, none⟩) Ad.length Au] rfl Z60 ?_; (with_reducible refine (impl_AreLooms.calls _ _ Ad true _ ?side1 ?side2 A8.out).mono ?_); (case side1 => exact Z47); (case side2 => exact Z95); rintro e C3 ⟨rfl, hb⟩; refine ⟨_, rfl, ?_⟩; replace Aa := roB Aa hb; replace Ac := bkB Ac hb; replace HB := hbS Z14 hb; (try clear hb)))
    go_ret2
    exact ⟨_, Z7, Z82, Z14⟩
   ·replace c9 := Bool.eq_false_iff.mpr c9
    subst c9
    have H1 : (some (([] : List (S56)), false)) = some (r1, r2) := by rw [if_neg (show ¬ (false = true) by decide)] at H; exact H
    clear H; have H := H1; clear H1
    simp only [Option.some.injEq, Prod.mk.injEq] at H
    obtain ⟨rfl, rfl⟩ := H
    go_enter Try.func70, Try.ntmps70
    go_wp2_with (first | ((with_reducible refine gate_dst (N := 5) rfl ?_); refine bxE 5 #[.int .i64 Ae, .int .i64 Af, .int .i64 Ag, .int .i64 Ah, .int .i64 Ai] 56 ?_; intro Ak hg C4 hbox hb; have Ac := aM (hbox); have Bs := gwS hg Z0; have Al := gwS hg Z0; replace HB := hbS Z0 hb; clear hb hbox hg) | ((with_reducible refine gate_callee (f := 104) rfl ?_); refine glE (some 10) Try.func104 #[.slice A0 l0.length c0] ?_; (with_reducible refine (slices_Clone_lm.calls _ _ l0 Ab _ ?side1 ?side2 A4.out).mono ?_); (case side1 => exact Z69); (case side2 => exact Cy.out); rintro e Ap ⟨Cs, rfl, Bt, hb⟩; refine ⟨_, rfl, ?_⟩; have Aa := aM (Kd.R_lower (Kd.R_newB Bt (g := Ak) (o := .cells #[.int .i64 Ae, .int .i64 Af, .int .i64 Ag, .int .i64 Ah, .int .i64 Ai] 56 (0, 0)) Z57) (below_size Z14)); replace Ac := bkB Ac hb; replace HB := hbS Z14 hb; (try clear hb); (try clear Bt); obtain ⟨Ci, Cj, Ck, Cl, Cm⟩ := bz5 Ac; obtain ⟨Cn, Co, Cp, Cq, Cr⟩ := fz5 Ac; have p7 : 0 ≤ (a1 : Int) := of_decide_eq_true Z5; have q7 : (a1 : Int) < ((Ab.length : Int) : Int) := of_decide_eq_true Z5; obtain ⟨Aj, Au, Bu, Bv, gl7, cl7, HG7⟩ := Kd.R_form Aa.out (by omega); (first | cases Bu | (injection Bu with ea_ en_ ec_; (first | subst ea_ | (injection ea_ with ea_; subst ea_)); subst ec_; clear en_)); have Aq := Aside0.mk Bv; have C1 := Aside0.mk HG7; clear Bv gl7 HG7; obtain ⟨ce7, hcl7, hM7, hcc7, hfr7⟩ := Kd.R_elem Aa.out z56 (a1 : Int) p7 q7; obtain rfl := k56_openM hM7; have Bw : Ap.cell? ⟨Aj, (a1 : Int).toNat * 5, none⟩ = some (.int .i64 ((rd_T56 Ab a1).f0)) := hcc7 0 _ rfl; have Bx : Ap.cell? ⟨Aj, (a1 : Int).toNat * 5 + 1, none⟩ = some (.int .i64 ((rd_T56 Ab a1).f1)) := hcc7 1 _ rfl; have Bz : Ap.cell? ⟨Aj, (a1 : Int).toNat * 5 + 2, none⟩ = some (.int .i64 ((rd_T56 Ab a1).f2)) := hcc7 2 _ rfl; have B0 : Ap.cell? ⟨Aj, (a1 : Int).toNat * 5 + 3, none⟩ = some (.int .i64 ((rd_T56 Ab a1).f3)) := hcc7 3 _ rfl; have B1 : Ap.cell? ⟨Aj, (a1 : Int).toNat * 5 + 4, none⟩ = some (.int .i64 ((rd_T56 Ab a1).f4)) := hcc7 4 _ rfl; have B2 : Ap.frozen? ⟨Aj, (a1 : Int).toNat * 5, none⟩ = false := hfr7 0; have B3 : Ap.frozen? ⟨Aj, (a1 : Int).toNat * 5 + 1, none⟩ = false := hfr7 1; have B5 : Ap.frozen? ⟨Aj, (a1 : Int).toNat * 5 + 2, none⟩ = false := hfr7 2; have B6 : Ap.frozen? ⟨Aj, (a1 : Int).toNat * 5 + 3, none⟩ = false := hfr7 3; have B7 : Ap.frozen? ⟨Aj, (a1 : Int).toNat * 5 + 4, none⟩ = false := hfr7 4; clear hcl7 hcc7 hfr7 hM7; replace p7 := eq_true p7; replace q7 := eq_true q7; have n_ := aM (Kd.R_mono (ok' := (fun k_ => k_ ≠ Ak)) Aa.out (fun k_ hk => hk.2)); clear Aa; have Aa := n_; clear n_; have HX19 := aM (show Kd.R k56 56 Ap w.heap.size (fun k_ => k_ ≠ Ak) (.slice (some ⟨Aj, 0, none⟩) Ab.length Au) Ab from Z51); obtain ⟨ce19, hcl19, hM19, hcc19, hfr19⟩ := Kd.R_elem HX19.out z56 (a1 : Int) (of_decide_eq_true Z5) Z109; obtain rfl := k56_openM hM19; have Bh := Kd.R_seg HX19.out (a1 : Int) (of_decide_eq_true Z5) Z109 (seg := [.int .i64 Ae, .int .i64 Af, .int .i64 Ag, .int .i64 Ah, .int .i64 Ai]) (j := 0) hcl19 hcc19 (show 5 ≤ 5 from by decide) (x' := (⟨Ae, Af, Ag, Ah, Ai⟩ : S56)) (k56_mkM _ _ _ (⟨Ae, Af, Ag, Ah, Ai⟩ : S56) ) (fun _ hk => hk); have Bi := hcc19 0 _ rfl; (try simp only [show (k56).sz = 5 from rfl, Nat.mul_one, Nat.add_zero] at Bi); have Bj := hfr19 0; (try simp only [show (k56).sz = 5 from rfl, Nat.mul_one, Nat.add_zero] at Bj); have Bk := hcc19 1 _ rfl; (try simp only [show (k56).sz = 5 from rfl, Nat.mul_one, Nat.add_zero] at Bk); have Bl := hfr19 1; (try simp only [show (k56).sz = 5 from rfl, Nat.mul_one, Nat.add_zero] at Bl); have Bm := hcc19 2 _ rfl; (try simp only [show (k56).sz = 5 from rfl, Nat.mul_one, Nat.add_zero] at Bm); have Bn := hfr19 2; (try simp only [show (k56).sz = 5 from rfl, Nat.mul_one, Nat.add_zero] at Bn); have Bo := hcc19 3 _ rfl; (try simp only [show (k56).sz = 5 from rfl, Nat.mul_one, Nat.add_zero] at Bo); have Bp := hfr19 3; (try simp only [show (k56).sz = 5 from rfl, Nat.mul_one, Nat.add_zero] at Bp); have Bq := hcc19 4 _ rfl; (try simp only [show (k56).sz = 5 from rfl, Nat.mul_one, Nat.add_zero] at Bq); have Br := hfr19 4; (try simp only [show (k56).sz = 5 from rfl, Nat.mul_one, Nat.add_zero] at Br); clear hcl19 hcc19 hfr19 hM19) | ((with_reducible refine gate_store (t := 56) (p := 14) rfl ?_); refine store_event (t := 56) (p := 14) (v := ?vo_w20) (w1 := (((((Ap.setCell ⟨Aj, (a1 : Int).toNat * 5, none⟩ (.int .i64 Ae)).setCell ⟨Aj, (a1 : Int).toNat * 5 + 1, none⟩ (.int .i64 Af)).setCell ⟨Aj, (a1 : Int).toNat * 5 + 2, none⟩ (.int .i64 Ag)).setCell ⟨Aj, (a1 : Int).toNat * 5 + 3, none⟩ (.int .i64 Ah)).setCell ⟨Aj, (a1 : Int).toNat * 5 + 4, none⟩ (.int .i64 Ai))) ?hg ?ho ?hn ?hr ?_; (case ho => rfl); (case hg => rfl); (case hn => rfl); (case hr => first | (go_simp; done) | (go_simp; rfl)); intro Cu hw; have hg : Ap.grownBy Cu (some Aj) := (by rw [hw]; exact Bh.2); have hp_ : Kd.R k56 56 Cu w.heap.size (fun k_ => k_ ≠ Ak) (.slice (some ⟨Aj, 0, none⟩) Ab.length Au) Ad := (by rw [hw, Ar.out]; exact Bh.1); clear Bh; replace Ac := aM (blk_grown (g := Ak) (o := .cells #[.int .i64 Ae, .int .i64 Af, .int .i64 Ag, .int .i64 Ah, .int .i64 Ai] 56 (0, 0)) Z57 hg (Kd.R_away Aa.out (fun _ hk => hk))); replace Aa := aM (hp_); replace HB := aM ((Z85 : Below w.heap.size w Cu)); clear hg hw hp_) | ((with_reducible refine gate_callee (f := 30) rfl ?_); refine goesL_ (some 16) rfl rfl Try.func30 Z49 rfl #[.slice (some ⟨Aj, 0, none⟩) Ad.length Au] rfl Z60 ?_; (with_reducible refine (impl_AreLooms.calls _ _ Ad false _ ?side1 ?side2 A8.out).mono ?_); (case side1 => exact Z47); (case side2 => exact Z95); rintro e C5 ⟨rfl, hb⟩; refine ⟨_, rfl, ?_⟩; replace Aa := roB Aa hb; replace Ac := bkB Ac hb; replace HB := hbS Z14 hb; (try clear hb)))
    go_ret2
    exact ⟨_, Z7, Z31, Z14⟩
  ·rw [if_neg c6] at H
   exact absurd H (by simp)
 ·rw [if_neg c5] at H
  exact absurd H (by simp)
def spec_l5Wide.f (a0 : Int) : Option (Bool) := (spec_l1In.f a0 30 600).bind fun t565 => (some t565)
theorem spec_l5Wide.calls (a0 : Int) (r : Bool) (w : World) (h : spec_l5Wide.f a0 = some r) :
  Calls Try.prog 84 #[.int .i64 a0] w fun e w' => e = .returned (.bool r) ∧ Drawn0 w w' := by
 have H : ((spec_l1In.f a0 30 600).bind fun Aa => (some Aa)) = some r := h; clear h; replace H := Option.bind_eq_some_iff.mp H; obtain ⟨Aa, Ab, H⟩ := H; replace H : (some Aa) = some r := H; have A2 := Aside0.mk Ab; clear Ab; obtain rfl := Option.some.inj H
 go_enter Try.func84, Try.ntmps84
 go_wp2_with (first | ((with_reducible refine gate_callee (f := 72) rfl ?_); refine glE (some 4) Try.func72 #[.int .i64 a0, .int .i64 30, .int .i64 600] ?_; (with_reducible refine (spec_l1In.calls a0 30 600 Aa _ A2.out).mono ?_); rintro e w' ⟨rfl, ⟨nd, rfl⟩⟩; refine ⟨_, rfl, ?_⟩))
 go_ret
 exact ⟨Z10, Z37⟩
def spec_l5One.j0 : Nat → Bool → Int → Int → Int → Int → Int → Option (Bool)
 | 0, _, _, _, _, _, _ => none
 | k + 1, x24, x567000, x567001, x567002, x567003, x567004 => if x24 = true then (some false) else (if x567004 = 0 then (if x567002 = 0 then (some (x567003 == 0)) else (some false)) else (if x567004 = 1 then ((spec_l1In.f x567002 10 (wrap64 (12 * x567001))).bind fun t571 => (if t571 = true then (some (decide (x567003 ≥ 50))) else (some false))) else (if x567004 = 2 then ((spec_l1In.f x567002 10 (wrap64 (12 * x567001))).bind fun t572 => (if t572 = true then (some (decide (x567003 ≥ 50))) else (some false))) else (some (x567004 == 3)))))
def spec_l5One.f (k : Nat) (a0_0 : Int) (a0_1 : Int) (a0_2 : Int) (a0_3 : Int) (a0_4 : Int) : Option (Bool) := (spec_l1In.f a0_0 1 99).bind fun t567 => (if t567 = true then ((spec_l5Wide.f a0_1).bind fun t568 => (if t568 = true then ((spec_l1In.f a0_2 0 4000).bind fun t569 => (if t569 = true then ((spec_l1In.f a0_3 0 500).bind fun t570 => (spec_l5One.j0 k (!t570) a0_0 a0_1 a0_2 a0_3 a0_4)) else (spec_l5One.j0 k true a0_0 a0_1 a0_2 a0_3 a0_4))) else (spec_l5One.j0 k true a0_0 a0_1 a0_2 a0_3 a0_4))) else (spec_l5One.j0 k true a0_0 a0_1 a0_2 a0_3 a0_4))
theorem spec_l5One.calls (k : Nat) (Af : Int) (Ac : Int) (Aa : Int) (Ad : Int) (Ab : Int) (r : Bool) (w : World) (h : spec_l5One.f k Af Ac Aa Ad Ab = some r) :
  Calls Try.prog 90 #[.agg #[.int .i64 Af, .int .i64 Ac, .int .i64 Aa, .int .i64 Ad, .int .i64 Ab]] w fun e w' => e = .returned (.bool r) ∧ Below w.heap.size w w' := by
 have hu56 := Try.underlying56; have HB := aM (Below.refl w.heap.size w); have H : ((spec_l1In.f Af 1 99).bind fun Al => (if Al = true then ((spec_l5Wide.f Ac).bind fun Aj => (if Aj = true then ((spec_l1In.f Aa 0 4000).bind fun Ai => (if Ai = true then ((spec_l1In.f Ad 0 500).bind fun Ah => (spec_l5One.j0 k (!Ah) Af Ac Aa Ad Ab)) else (spec_l5One.j0 k true Af Ac Aa Ad Ab))) else (spec_l5One.j0 k true Af Ac Aa Ad Ab))) else (spec_l5One.j0 k true Af Ac Aa Ad Ab))) = some r := h; clear h; have Eh := Aside0.mk H; clear H
 go_enter Try.func90, Try.ntmps90
 go_upto_region 1 with (first | ((with_reducible refine gate_dst (N := 1) rfl ?_); refine bxE 1 #[.int .i64 Af, .int .i64 Ac, .int .i64 Aa, .int .i64 Ad, .int .i64 Ab] 56 ?_; intro Cb hg w3 hbox hb; have Ae := aM (hbox); have Ei := gwS hg Z0; have Ag := gwS hg Z0; replace HB := hbS Z0 hb; clear hb hbox hg))
 (try simp only [Act.put, List.setIfInBounds_toArray, List.set_cons_zero, List.set_cons_succ])
 go_cut [24] (fun Eo wc => ∃ (kq : Nat) (Ak : Bool), Eo = .bool Ak ∧ Aside0 (spec_l5One.j0 kq Ak Af Ac Aa Ad Ab = some r) ∧ Aside0 (kq ≤ k) ∧ Aside0 (wc.heap[Cb]? = some (.cells #[.int .i64 Af, .int .i64 Ac, .int .i64 Aa, .int .i64 Ad, .int .i64 Ab] 56 (0, 0))) ∧ Aside0 (Below w.heap.size w wc))
 case first =>
  have H := Eh.out; clear Eh; replace H := Option.bind_eq_some_iff.mp H; obtain ⟨Al, Ej, H⟩ := H; replace H : (if Al = true then ((spec_l5Wide.f Ac).bind fun Aj => (if Aj = true then ((spec_l1In.f Aa 0 4000).bind fun Ai => (if Ai = true then ((spec_l1In.f Ad 0 500).bind fun Ah => (spec_l5One.j0 k (!Ah) Af Ac Aa Ad Ab)) else (spec_l5One.j0 k true Af Ac Aa Ad Ab))) else (spec_l5One.j0 k true Af Ac Aa Ad Ab))) else (spec_l5One.j0 k true Af Ac Aa Ad Ab)) = some r := H; have A4 := Aside0.mk Ej; clear Ej
  by_cases c5 : Al = true
  ·subst c5
   have H1 : ((spec_l5Wide.f Ac).bind fun Aj => (if Aj = true then ((spec_l1In.f Aa 0 4000).bind fun Ai => (if Ai = true then ((spec_l1In.f Ad 0 500).bind fun Ah => (spec_l5One.j0 k (!Ah) Af Ac Aa Ad Ab)) else (spec_l5One.j0 k true Af Ac Aa Ad Ab))) else (spec_l5One.j0 k true Af Ac Aa Ad Ab))) = some r := by rw [if_pos rfl] at H; exact H
   clear H; have H := H1; clear H1; replace H := Option.bind_eq_some_iff.mp H; obtain ⟨Aj, Ek, H⟩ := H; replace H : (if Aj = true then ((spec_l1In.f Aa 0 4000).bind fun Ai => (if Ai = true then ((spec_l1In.f Ad 0 500).bind fun Ah => (spec_l5One.j0 k (!Ah) Af Ac Aa Ad Ab)) else (spec_l5One.j0 k true Af Ac Aa Ad Ab))) else (spec_l5One.j0 k true Af Ac Aa Ad Ab)) = some r := H; have A6 := Aside0.mk Ek; clear Ek
   by_cases c7 : Aj = true
   ·subst c7
    have H1 : ((spec_l1In.f Aa 0 4000).bind fun Ai => (if Ai = true then ((spec_l1In.f Ad 0 500).bind fun Ah => (spec_l5One.j0 k (!Ah) Af Ac Aa Ad Ab)) else (spec_l5One.j0 k true Af Ac Aa Ad Ab))) = some r := by rw [if_pos rfl] at H; exact H
    clear H; have H := H1; clear H1; replace H := Option.bind_eq_some_iff.mp H; obtain ⟨Ai, El, H⟩ := H; replace H : (if Ai = true then ((spec_l1In.f Ad 0 500).bind fun Ah => (spec_l5One.j0 k (!Ah) Af Ac Aa Ad Ab)) else (spec_l5One.j0 k true Af Ac Aa Ad Ab)) = some r := H; have A8 := Aside0.mk El; clear El
    by_cases c9 : Ai = true
    ·subst c9
     have H1 : ((spec_l1In.f Ad 0 500).bind fun Ah => (spec_l5One.j0 k (!Ah) Af Ac Aa Ad Ab)) = some r := by rw [if_pos rfl] at H; exact H
     clear H; have H := H1; clear H1; replace H := Option.bind_eq_some_iff.mp H; obtain ⟨Ah, Cc, H⟩ := H; replace H : (spec_l5One.j0 k (!Ah) Af Ac Aa Ad Ab) = some r := H; have Ep := Aside0.mk Cc; clear Cc; have H' := Aside0.mk H; clear H; obtain ⟨Am, An, Ao, Ap, Aq⟩ := bz5 Ae; obtain ⟨Ar, Au, Av, Aw, Ax⟩ := fz5 Ae
     go_wp2_with (first | ((with_reducible refine gate_callee (f := 72) rfl ?_); refine glE (some 5) Try.func72 #[.int .i64 Af, .int .i64 1, .int .i64 99] ?_; (with_reducible refine (spec_l1In.calls Af 1 99 true _ A4.out).mono ?_); rintro e w' ⟨rfl, ⟨nd, rfl⟩⟩; refine ⟨_, rfl, ?_⟩) | (go_at_call 84; (with_reducible refine (spec_l5Wide.calls Ac true _ A6.out).mono ?_); rintro e w' ⟨rfl, ⟨nd, rfl⟩⟩) | (go_at_call 72; (with_reducible refine (spec_l1In.calls Aa 0 4000 true _ A8.out).mono ?_); rintro e w' ⟨rfl, ⟨nd, rfl⟩⟩) | (go_at_call 72; (with_reducible refine (spec_l1In.calls Ad 0 500 Ah _ Ep.out).mono ?_); rintro e w' ⟨rfl, ⟨nd, rfl⟩⟩))
     go_meet
     case rel => exact ⟨_, (!Ah), Z10, H', ⟨Z48⟩, ⟨Z13⟩, ⟨Z9⟩⟩
    ·replace c9 := Bool.eq_false_iff.mpr c9
     subst c9
     have H1 : (spec_l5One.j0 k true Af Ac Aa Ad Ab) = some r := by rw [if_neg (show ¬ (false = true) by decide)] at H; exact H
     clear H; have H := H1; clear H1; have H' := Aside0.mk H; clear H; obtain ⟨Ay, Az, Ba, Bb, Bc⟩ := bz5 Ae; obtain ⟨Bd, Bf, Bg, Bh, Bi⟩ := fz5 Ae
     go_wp2_with (first | ((with_reducible refine gate_callee (f := 72) rfl ?_); refine glE (some 5) Try.func72 #[.int .i64 Af, .int .i64 1, .int .i64 99] ?_; (with_reducible refine (spec_l1In.calls Af 1 99 true _ A4.out).mono ?_); rintro e w' ⟨rfl, ⟨nd, rfl⟩⟩; refine ⟨_, rfl, ?_⟩) | (go_at_call 84; (with_reducible refine (spec_l5Wide.calls Ac true _ A6.out).mono ?_); rintro e w' ⟨rfl, ⟨nd, rfl⟩⟩) | (go_at_call 72; (with_reducible refine (spec_l1In.calls Aa 0 4000 false _ A8.out).mono ?_); rintro e w' ⟨rfl, ⟨nd, rfl⟩⟩))
     go_meet
     case rel => exact ⟨_, (true), Z10, H', ⟨Z48⟩, ⟨Z13⟩, ⟨Z9⟩⟩
   ·replace c7 := Bool.eq_false_iff.mpr c7
    subst c7
    have H1 : (spec_l5One.j0 k true Af Ac Aa Ad Ab) = some r := by rw [if_neg (show ¬ (false = true) by decide)] at H; exact H
    clear H; have H := H1; clear H1; have H' := Aside0.mk H; clear H; obtain ⟨Bj, Bk, Bl, Bm, Bn⟩ := bz5 Ae; obtain ⟨Bo, Bp, Bq, Br, Bs⟩ := fz5 Ae
    go_wp2_with (first | ((with_reducible refine gate_callee (f := 72) rfl ?_); refine glE (some 5) Try.func72 #[.int .i64 Af, .int .i64 1, .int .i64 99] ?_; (with_reducible refine (spec_l1In.calls Af 1 99 true _ A4.out).mono ?_); rintro e w' ⟨rfl, ⟨nd, rfl⟩⟩; refine ⟨_, rfl, ?_⟩) | (go_at_call 84; (with_reducible refine (spec_l5Wide.calls Ac false _ A6.out).mono ?_); rintro e w' ⟨rfl, ⟨nd, rfl⟩⟩))
    go_meet
    case rel => exact ⟨_, (true), Z10, H', ⟨Z48⟩, ⟨Z13⟩, ⟨Z9⟩⟩
  ·replace c5 := Bool.eq_false_iff.mpr c5
   subst c5
   have H1 : (spec_l5One.j0 k true Af Ac Aa Ad Ab) = some r := by rw [if_neg (show ¬ (false = true) by decide)] at H; exact H
   clear H; have H := H1; clear H1; have H' := Aside0.mk H; clear H; obtain ⟨Bt, Bu, Bv, Bw, Bx⟩ := bz5 Ae; obtain ⟨Bz, B0, B1, B2, B3⟩ := fz5 Ae
   go_wp2_with (first | ((with_reducible refine gate_callee (f := 72) rfl ?_); refine glE (some 5) Try.func72 #[.int .i64 Af, .int .i64 1, .int .i64 99] ?_; (with_reducible refine (spec_l1In.calls Af 1 99 false _ A4.out).mono ?_); rintro e w' ⟨rfl, ⟨nd, rfl⟩⟩; refine ⟨_, rfl, ?_⟩))
   go_meet
   case rel => exact ⟨_, (true), Z10, H', ⟨Z48⟩, ⟨Z13⟩, ⟨Z9⟩⟩
 case rest =>
  clear Eh; (try clear p2); (try clear c5); (try clear c7); (try clear c9); (try clear Am); (try clear An); (try clear Ao); (try clear Ap); (try clear Aq); (try clear Ay); (try clear Az); (try clear Ba); (try clear Bb); (try clear Bc); (try clear Bj); (try clear Bk); (try clear Bl); (try clear Bm); (try clear Bn); (try clear Bt); (try clear Bu); (try clear Bv); (try clear Bw); (try clear Bx); (try clear Ar); (try clear Au); (try clear Av); (try clear Aw); (try clear Ax); (try clear Bd); (try clear Bf); (try clear Bg); (try clear Bh); (try clear Bi); (try clear Bo); (try clear Bp); (try clear Bq); (try clear Br); (try clear Bs); (try clear Bz); (try clear B0); (try clear B1); (try clear B2); (try clear B3); obtain ⟨kq, Ak, rfl, HA, HJ1, Ae, HB⟩ := hcut; cases kq with
  | zero => exact absurd HA.out (by simp [spec_l5One.j0])
  | succ Er =>
   have H := HA.out; clear HA
   simp only [spec_l5One.j0] at H
   by_cases Cf : Ak = true
   ·subst Cf
    have H1 : (some false) = some r := by rw [if_pos rfl] at H; exact H
    clear H; have H := H1; clear H1; obtain rfl := Option.some.inj H
    go_wp2
    go_ret
    exact ⟨Z7, Z9⟩
   ·replace Cf := Bool.eq_false_iff.mpr Cf
    subst Cf
    have H1 : (if Ab = 0 then (if Aa = 0 then (some (Ad == 0)) else (some false)) else (if Ab = 1 then ((spec_l1In.f Aa 10 (wrap64 (12 * Ac))).bind fun B5 => (if B5 = true then (some (decide (Ad ≥ 50))) else (some false))) else (if Ab = 2 then ((spec_l1In.f Aa 10 (wrap64 (12 * Ac))).bind fun B6 => (if B6 = true then (some (decide (Ad ≥ 50))) else (some false))) else (some (Ab == 3))))) = some r := by rw [if_neg (show ¬ (false = true) by decide)] at H; exact H
    clear H; have H := H1; clear H1
    by_cases B7 : Ab = 0
    ·rw [if_pos B7] at H
     have c16b0 : (Ab == 0) = true := beq_iff_eq.mpr B7; have c16b1 : (Ab != 0) = false := bne_eq_false_iff_eq.mpr B7; clear B7
     by_cases B8 : Aa = 0
     ·rw [if_pos B8] at H
      have c17b0 : (Aa == 0) = true := beq_iff_eq.mpr B8; have c17b1 : (Aa != 0) = false := bne_eq_false_iff_eq.mpr B8; clear B8; obtain rfl := Option.some.inj H; obtain ⟨Cg, Ch, Ci, Cj, Ck⟩ := bz5 Ae; obtain ⟨Cl, Cm, Cn, Co, Cp⟩ := fz5 Ae
      go_wp2
      go_ret
      exact ⟨Z7, Z9⟩
     ·rw [if_neg B8] at H
      have c17b0 : (Aa == 0) = false := beq_eq_false_iff_ne.mpr B8; have c17b1 : (Aa != 0) = true := bne_iff_ne.mpr B8; obtain rfl := Option.some.inj H; obtain ⟨Cq, Cr, Cs, Ct, Cu⟩ := bz5 Ae; obtain ⟨Cv, Cw, Cx, Cy, Cz⟩ := fz5 Ae
      go_wp2
      go_ret
      exact ⟨Z7, Z9⟩
    ·rw [if_neg B7] at H
     have c16b0 : (Ab == 0) = false := beq_eq_false_iff_ne.mpr B7; have c16b1 : (Ab != 0) = true := bne_iff_ne.mpr B7
     by_cases B9 : Ab = 1
     ·rw [if_pos B9] at H
      have c20b0 : (Ab == 1) = true := beq_iff_eq.mpr B9; have c20b1 : (Ab != 1) = false := bne_eq_false_iff_eq.mpr B9; clear B9; replace H := Option.bind_eq_some_iff.mp H; obtain ⟨B5, Cd, H⟩ := H; replace H : (if B5 = true then (some (decide (Ad ≥ 50))) else (some false)) = some r := H; have Em := Aside0.mk Cd; clear Cd
      by_cases C0 : B5 = true
      ·subst C0
       have H1 : (some (decide (Ad ≥ 50))) = some r := by rw [if_pos rfl] at H; exact H
       clear H; have H := H1; clear H1; obtain rfl := Option.some.inj H; obtain ⟨C1, C2, C3, C4, C5⟩ := bz5 Ae; obtain ⟨C6, C7, C8, C9, Da⟩ := fz5 Ae
       go_wp2_with (first | ((with_reducible refine gate_callee (f := 72) rfl ?_); refine glE (some 45) Try.func72 #[.int .i64 Aa, .int .i64 10, .int .i64 (wrap64 (12 * Ac))] ?_; (with_reducible refine (spec_l1In.calls Aa 10 (wrap64 (12 * Ac)) true _ Em.out).mono ?_); rintro e w' ⟨rfl, ⟨nd, rfl⟩⟩; refine ⟨_, rfl, ?_⟩))
       go_ret
       exact ⟨Z7, Z9⟩
      ·replace C0 := Bool.eq_false_iff.mpr C0
       subst C0
       have H1 : (some false) = some r := by rw [if_neg (show ¬ (false = true) by decide)] at H; exact H
       clear H; have H := H1; clear H1; obtain rfl := Option.some.inj H; obtain ⟨Db, Dc, Dd, De, Df⟩ := bz5 Ae; obtain ⟨Dg, Dh, Di, Dj, Dk⟩ := fz5 Ae
       go_wp2_with (first | ((with_reducible refine gate_callee (f := 72) rfl ?_); refine glE (some 45) Try.func72 #[.int .i64 Aa, .int .i64 10, .int .i64 (wrap64 (12 * Ac))] ?_; (with_reducible refine (spec_l1In.calls Aa 10 (wrap64 (12 * Ac)) false _ Em.out).mono ?_); rintro e w' ⟨rfl, ⟨nd, rfl⟩⟩; refine ⟨_, rfl, ?_⟩))
       go_ret
       exact ⟨Z7, Z9⟩
     ·rw [if_neg B9] at H
      have c20b0 : (Ab == 1) = false := beq_eq_false_iff_ne.mpr B9; have c20b1 : (Ab != 1) = true := bne_iff_ne.mpr B9
      by_cases Ca : Ab = 2
      ·rw [if_pos Ca] at H
       have c25b0 : (Ab == 2) = true := beq_iff_eq.mpr Ca; have c25b1 : (Ab != 2) = false := bne_eq_false_iff_eq.mpr Ca; clear Ca; replace H := Option.bind_eq_some_iff.mp H; obtain ⟨B6, Ce, H⟩ := H; replace H : (if B6 = true then (some (decide (Ad ≥ 50))) else (some false)) = some r := H; have En := Aside0.mk Ce; clear Ce
       by_cases Dl : B6 = true
       ·subst Dl
        have H1 : (some (decide (Ad ≥ 50))) = some r := by rw [if_pos rfl] at H; exact H
        clear H; have H := H1; clear H1; obtain rfl := Option.some.inj H; obtain ⟨Dm, Dn, Dp, Dq, Dr⟩ := bz5 Ae; obtain ⟨Ds, Dt, Du, Dv, Dw⟩ := fz5 Ae
        go_wp2_with (first | ((with_reducible refine gate_callee (f := 72) rfl ?_); refine glE (some 45) Try.func72 #[.int .i64 Aa, .int .i64 10, .int .i64 (wrap64 (12 * Ac))] ?_; (with_reducible refine (spec_l1In.calls Aa 10 (wrap64 (12 * Ac)) true _ En.out).mono ?_); rintro e w' ⟨rfl, ⟨nd, rfl⟩⟩; refine ⟨_, rfl, ?_⟩))
        go_ret
        exact ⟨Z7, Z9⟩
       ·replace Dl := Bool.eq_false_iff.mpr Dl
        subst Dl
        have H1 : (some false) = some r := by rw [if_neg (show ¬ (false = true) by decide)] at H; exact H
        clear H; have H := H1; clear H1; obtain rfl := Option.some.inj H; obtain ⟨Dx, Dy, Dz, D0, D1⟩ := bz5 Ae; obtain ⟨D2, D3, D4, D5, D6⟩ := fz5 Ae
        go_wp2_with (first | ((with_reducible refine gate_callee (f := 72) rfl ?_); refine glE (some 45) Try.func72 #[.int .i64 Aa, .int .i64 10, .int .i64 (wrap64 (12 * Ac))] ?_; (with_reducible refine (spec_l1In.calls Aa 10 (wrap64 (12 * Ac)) false _ En.out).mono ?_); rintro e w' ⟨rfl, ⟨nd, rfl⟩⟩; refine ⟨_, rfl, ?_⟩))
        go_ret
        exact ⟨Z7, Z9⟩
      ·rw [if_neg Ca] at H
       have c25b0 : (Ab == 2) = false := beq_eq_false_iff_ne.mpr Ca; have c25b1 : (Ab != 2) = true := bne_iff_ne.mpr Ca; obtain rfl := Option.some.inj H; obtain ⟨D7, D8, D9, Ea, Eb⟩ := bz5 Ae; obtain ⟨Ec, Ed, Ee, Ef, Eg⟩ := fz5 Ae
       go_wp2
       go_ret
       exact ⟨Z7, Z9⟩
end Go.Proofs.Ytplhkmeoeojinaa.H
