-- by wip/pack.py of this repo
import Derived.Test.YtfeighajmkcjfaaGreatDoorZ01Hx0
import Derived.Test.YtfeighajmkcjfaaGreatDoorZ01Hx2
import Derived.Test.YtfeighajmkcjfaaGreatDoorZ01WKept
import Derived.Test.YtfeighajmkcjfaaGreatDoorZ01WLast
import Derived.Test.YtfeighajmkcjfaaGreatDoorZ01WMore
import Derived.Test.YtfeighajmkcjfaaGreatDoorZ01WWords
import Derived.Test.YtfeighajmkcjfaaGreatDoorZ01WZeros
import Derived.Test.YtfeighajmkcjfaaGreatDoorZ01Short
namespace Go.Proofs.YtfeighajmkcjfaaGreatDoor.H
open Go.RowKit Go.Proofs.YtfeighajmkcjfaaGreatDoorW.PrintWords Go.Proofs.YtfeighajmkcjfaaGreatDoorW.PrintLast Go.Proofs.YtfeighajmkcjfaaGreatDoorW.PrintMore
attribute [local go_sem high] gtr_text
attribute [local go_sem] max2_int min2_int max_two min_two max_three min_three max_four min_four
set_option maxHeartbeats 8000000
set_option maxRecDepth 100000
set_option linter.unusedVariables false
set_option linter.unusedSimpArgs false
def impl_IsRecipe_1.f (a0_0 : ByteArray) (a0_1 : Int) : Option (Bool) := (impl_isWord.f a0_0).bind fun t204 => (if t204 = true then ((impl_in.f a0_1 1 1000).bind fun t205 => (some t205)) else (some false))
theorem impl_IsRecipe_1.calls (Ab : ByteArray) (Ac : Int) (r : Bool) (w : World) (h : impl_IsRecipe_1.f Ab Ac = some r) :
  Calls Tryz.prog 30 #[.agg #[.string Ab, .int .i64 Ac]] w fun e w' => e = .returned (.bool r) ∧ Below w.heap.size w w' := by
 have hu53 := Tryz.underlying53; have HB := aM (Below.refl w.heap.size w); have H : ((impl_isWord.f Ab).bind fun Af => (if Af = true then ((impl_in.f Ac 1 1000).bind fun Ad => (some Ad)) else (some false))) = some r := h; clear h; replace H := Option.bind_eq_some_iff.mp H; obtain ⟨Af, Aw, H⟩ := H; replace H : (if Af = true then ((impl_in.f Ac 1 1000).bind fun Ad => (some Ad)) else (some false)) = some r := H; have A2 := Aside0.mk Aw; clear Aw
 by_cases c3 : Af = true
 ·subst c3
  have H1 : ((impl_in.f Ac 1 1000).bind fun Ad => (some Ad)) = some r := by rw [if_pos rfl] at H; exact H
  clear H; have H := H1; clear H1; replace H := Option.bind_eq_some_iff.mp H; obtain ⟨Ad, Ax, H⟩ := H; replace H : (some Ad) = some r := H; have A4 := Aside0.mk Ax; clear Ax; obtain rfl := Option.some.inj H
  go_enter Tryz.func30, Tryz.ntmps30
  go_wp2_with (first | ((with_reducible refine gate_dst (N := 1) rfl ?_); refine bxE 1 #[.string Ab, .int .i64 Ac] 53 ?_; intro Ag hg w5 hbox hb; have Aa := aM (hbox); have Ah := gwS hg Z0; have Ae := gwS hg Z0; replace HB := hbS Z0 hb; clear hb hbox hg; obtain ⟨Am, An⟩ := bz2 Aa; obtain ⟨Ao, Ap⟩ := fz2 Aa) | ((with_reducible refine gate_callee (f := 31) rfl ?_); refine glE (some 5) Tryz.func31 #[.string Ab] ?_; (with_reducible refine (impl_isWord.calls Ab true _ A2.out).mono ?_); rintro e w7 ⟨rfl, hb⟩; refine ⟨_, rfl, ?_⟩; replace Aa := bkB Aa hb; replace HB := hbS Z14 hb; (try clear hb); obtain ⟨Aq, Ar⟩ := bz2 Aa; obtain ⟨Au, Av⟩ := fz2 Aa) | (go_at_call 20; (with_reducible refine (impl_in.calls Ac 1 1000 Ad _ A4.out).mono ?_); rintro e w' ⟨rfl, ⟨nd, rfl⟩⟩))
  go_ret
  exact ⟨Z11, Z14⟩
 ·replace c3 := Bool.eq_false_iff.mpr c3
  subst c3
  have H1 : (some false) = some r := by rw [if_neg (show ¬ (false = true) by decide)] at H; exact H
  clear H; have H := H1; clear H1; obtain rfl := Option.some.inj H
  go_enter Tryz.func30, Tryz.ntmps30
  go_wp2_with (first | ((with_reducible refine gate_dst (N := 1) rfl ?_); refine bxE 1 #[.string Ab, .int .i64 Ac] 53 ?_; intro Ag hg w9 hbox hb; have Aa := aM (hbox); have Ah := gwS hg Z0; have Ae := gwS hg Z0; replace HB := hbS Z0 hb; clear hb hbox hg; obtain ⟨Ai, Aj⟩ := bz2 Aa; obtain ⟨Ak, Al⟩ := fz2 Aa) | ((with_reducible refine gate_callee (f := 31) rfl ?_); refine glE (some 5) Tryz.func31 #[.string Ab] ?_; (with_reducible refine (impl_isWord.calls Ab false _ A2.out).mono ?_); rintro e Ay ⟨rfl, hb⟩; refine ⟨_, rfl, ?_⟩; replace Aa := bkB Aa hb; replace HB := hbS Z14 hb; (try clear hb)))
  go_ret
  exact ⟨Z11, Z14⟩
set_option maxHeartbeats 4000000 in
theorem IndexFunc_dp (p : S53 → Bool) (g : Nat) (lb : Array Value) (A : Option Addr) (c : Nat) (xs : List S53) (w : World)
  (eg : ∀ args w, (callFunc g args).run Tryz.prog w = .ok (.enter g args) w) (hr : Kd.C k53 w A xs.length xs)
  (hp : ∀ (W : World) (x : S53), Below w.heap.size w W → Calls Tryz.prog g (#[.agg #[.string x.f0, .int .i64 x.f1]] ++ lb) W fun e w' => e = .returned (.bool (p x)) ∧ Below W.heap.size W w') :
  Calls Tryz.prog 72 #[.slice A xs.length c, .func (.func g) #[] lb] w fun e w' => e = .returned (.int .i64 (findI p xs)) ∧ Below w.heap.size w w' := by
 have hu_ := Tryz.underlying53; have hlen := Aside0.mk hr.2.1; have HR := Aside0.mk hr; have HP := Aside0.mk hp; clear hr hp
 go_enter Tryz.func72, Tryz.ntmps72
 go_wp2
 go_loopg [5, 8] xs.length (fun gg _ s8 wr => ∃ x : Int, s8 = .int .i64 x ∧ Aside0 (0 ≤ x ∧ x ≤ (xs.length : Int) ∧ (xs.length : Int) - x ≤ gg) ∧ Aside0 (Below w.heap.size w wr) ∧ Aside0 (∀ j : Nat, (j : Int) < x → p (xs.getD j z53) = false))
 case atStart => exact ⟨0, rfl, ⟨by omega, by omega, by omega⟩, ⟨Below.refl _ _⟩, ⟨fun j hj => absurd hj (by omega)⟩⟩
 case round =>
  obtain ⟨x, rfl, HX, BW, HA⟩ := hrel
  by_cases hlt : x < (xs.length : Int)
  ·have c0 : decide (x < (xs.length : Int)) = true := decide_eq_true hlt
   obtain ⟨ad, e0, Aa, Ab⟩ := at_T53 (Kd.C_below HR.out BW.out) x HX.out.1 hlt; cases e0; have c1 : decide (0 ≤ x) = true := decide_eq_true HX.out.1; have p0 := eq_true HX.out.1; have p1 := eq_true hlt; have HL := Aside0.mk hlt; clear hlt; have hcall := HP.out _ (rd_T53 xs x) BW.out; have hget : Aside0 (xs.getD x.toNat z53 = (rd_T53 xs x)) := ⟨rfl⟩; cases hq : p (rd_T53 xs x) with
   | true =>
    rw [hq] at hcall; have HQ := Aside0.mk hq; have HC := Aside0.mk hcall; clear hq hcall
    go_wp2_with fail
    refine HC.out.mono ?_; rintro e w' ⟨rfl, hb'⟩; have HB := aM (below_step BW.out hb'); clear hb'
    go_wp2
    go_ret
    refine ⟨?_, HB.out⟩; rw [findI_hit p z53 xs x.toNat Z130 (fun j hj => HA.out j Z138) (by rw [hget.out]; exact HQ.out)]; rw [Int.toNat_of_nonneg HX.out.1]
    rfl
   | false =>
    rw [hq] at hcall; have HQ := Aside0.mk hq; have HC := Aside0.mk hcall; clear hq hcall
    go_wp2_with fail
    refine HC.out.mono ?_; rintro e w' ⟨rfl, hb'⟩; have HB := aM (below_step BW.out hb'); clear hb'
    go_wp2
    have hw1 : wrap64 (x + 1) = x + 1 := by have := HX.out; have := HL.out; have := hlen.out; unfold wrap64; omega
    go_roundg (xs.length - (x.toNat + 1))
    case measure => have := HX.out; have := HL.out; omega
    case rel =>
     refine ⟨x + 1, by first | rfl | rw [hw1] | simp [hw1], ⟨Z138, Z139, Z130⟩, HB, ⟨fun j hj => ?_⟩⟩
     by_cases e : (j : Int) < x
     ·exact HA.out j e
     ·have hj' : j = x.toNat := by have := HX.out; omega
      subst hj'; rw [hget.out]
      exact HQ.out
  ·have c0 : decide (x < (xs.length : Int)) = false := decide_eq_false hlt
   have HL := Aside0.mk hlt; clear hlt
   go_wp2
   go_ret
   refine ⟨?_, BW.out⟩; rw [findI_miss p z53 xs (fun j hj => HA.out j Z139)]
   rfl
set_option maxHeartbeats 4000000 in
theorem ContainsFunc_dp (p : S53 → Bool) (g : Nat) (lb : Array Value) (A : Option Addr) (c : Nat) (xs : List S53) (w : World)
  (eg : ∀ args w, (callFunc g args).run Tryz.prog w = .ok (.enter g args) w) (hr : Kd.C k53 w A xs.length xs)
  (hp : ∀ (W : World) (x : S53), Below w.heap.size w W → Calls Tryz.prog g (#[.agg #[.string x.f0, .int .i64 x.f1]] ++ lb) W fun e w' => e = .returned (.bool (p x)) ∧ Below W.heap.size W w') :
  Calls Tryz.prog 54 #[.slice A xs.length c, .func (.func g) #[] lb] w fun e w' => e = .returned (.bool (xs.any p)) ∧ Below w.heap.size w w' := by
 have HC := aM (IndexFunc_dp p g lb A c xs w eg hr hp); clear hr hp eg; rw [← findI_any]
 go_enter Tryz.func54, Tryz.ntmps54
 go_wp2_with fail
 refine HC.out.mono ?_; rintro e w' ⟨rfl, hb'⟩
 go_wp2
 go_ret
 exact ⟨Z102, hb'⟩
set_option maxHeartbeats 4000000 in
theorem areAll_dp_1 (p : S53 → Bool) (g : Nat) (lb : Array Value) (b : Nat) (x : S53) (W : World)
  (eg : ∀ args w, (callFunc g args).run Tryz.prog w = .ok (.enter g args) w) (hc : W.cell? ⟨b, 0, none⟩ = some (.func (.func g) #[] lb))
  (hp : ∀ W1, Below W.heap.size W W1 → Calls Tryz.prog g (#[.agg #[.string x.f0, .int .i64 x.f1]] ++ lb) W1 fun e w' => e = .returned (.bool (p x)) ∧ Below W1.heap.size W1 w') (hb : b < W.heap.size) :
  Calls Tryz.prog 55 #[.agg #[.string x.f0, .int .i64 x.f1], .pointer (some ⟨b, 0, none⟩)] W fun e w' => e = .returned (.bool (!p x)) ∧ Below W.heap.size W w' := by
 have hu_ := Tryz.underlying53; have HP := Aside0.mk hp; clear hp; have hB1 : Below W.heap.size W (W.alloc (.cells #[.string x.f0, .int .i64 x.f1] 53)) := below_alloc (Below.refl _ _) _; have Aa : (W.alloc (.cells #[.string x.f0, .int .i64 x.f1] 53)).cell? ⟨b, 0, none⟩ = some (.func (.func g) #[] lb) := (hB1.cell (p := ⟨b, 0, none⟩) hb).trans hc; have HB := Aside0.mk hB1; clear hB1 hc
 go_enter Tryz.func55, Tryz.ntmps55
 go_wp2_with fail
 refine (HP.out _ HB.out).mono ?_; rintro e w' ⟨rfl, hb'⟩
 go_wp2
 go_ret
 exact ⟨Z102, below_step HB.out hb'⟩
set_option maxHeartbeats 4000000 in
theorem areAll_dp (p : S53 → Bool) (g : Nat) (lb : Array Value) (A : Option Addr) (c : Nat) (xs : List S53) (w : World)
  (eg : ∀ args w, (callFunc g args).run Tryz.prog w = .ok (.enter g args) w) (hr : Kd.C k53 w A xs.length xs)
  (hp : ∀ (W : World) (x : S53), Below w.heap.size w W → Calls Tryz.prog g (#[.agg #[.string x.f0, .int .i64 x.f1]] ++ lb) W fun e w' => e = .returned (.bool (p x)) ∧ Below W.heap.size W w') :
  Calls Tryz.prog 32 #[.slice A xs.length c, .func (.func g) #[] lb] w fun e w' => e = .returned (.bool (xs.all p)) ∧ Below w.heap.size w w' := by
 have hmf : ∀ (fn : Fn) (first cap : Array Value) (w : World), (Instr.makeFunc fn first cap).run Tryz.prog w = .ok (.func fn first cap) w := fun _ _ _ _ => rfl
 have hB1 : Below w.heap.size w (w.alloc (.cells #[.func (.func g) #[] lb] 60)) := below_alloc (Below.refl _ _) _
 have Aa : (w.alloc (.cells #[.func (.func g) #[] lb] 60)).cell? ⟨w.heap.size, 0, none⟩ = some (.func (.func g) #[] lb) := by simp
 have hsz : w.heap.size < (w.alloc (.cells #[.func (.func g) #[] lb] 60)).heap.size := by simp
 have HC := aM (ContainsFunc_dp (fun x => !p x) 55 #[.pointer (some ⟨w.heap.size, 0, none⟩)] A c xs (w.alloc (.cells #[.func (.func g) #[] lb] 60)) (enters_of Tryz.func55 Z21 rfl) (Kd.C_below hr hB1)
  (fun W x hW => areAll_dp_1 p g lb w.heap.size x W eg ((hW.cell (p := ⟨w.heap.size, 0, none⟩) hsz).trans Aa) (fun W1 h1 => hp W1 x ((hB1.trans (hW.mono hB1.size)).trans (h1.mono (Nat.le_trans hB1.size hW.size)))) (Nat.lt_of_lt_of_le hsz hW.size)))
 have HB := Aside0.mk hB1; rw [← any_not]; clear hB1 Aa hsz hp hr eg
 go_enter Tryz.func32, Tryz.ntmps32
 go_wp2_with fail
 refine HC.out.mono ?_; rintro e w' ⟨rfl, hb'⟩
 go_wp2
 go_ret
 exact ⟨Z102, below_step HB.out hb'⟩
def okPart (x : S53) : Bool := (impl_IsRecipe_1.f x.f0 x.f1).getD false
theorem okPart_total (x : S53) : impl_IsRecipe_1.f x.f0 x.f1 = some (okPart x) := by
 unfold okPart impl_IsRecipe_1.f impl_isWord.f
 simp only [impl_in.eq, Option.bind_some]
 cases isWordB x.f0 <;> rfl
def areAll_IsRecipe_1.f (l0 : List S53) : Option Bool := some (l0.all okPart)
theorem areAll_IsRecipe_1.calls (A0 : Option Addr) (c0 : Nat) (l0 : List S53) (r : Bool) (w : World) (Aa : Kd.C k53 w A0 l0.length l0) (Ab : l0.length ≤ c0) (h : areAll_IsRecipe_1.f l0 = some r) :
  Calls Tryz.prog 32 #[.slice A0 l0.length c0, .func (.func 30) #[] #[]] w fun e w' => e = .returned (.bool r) ∧ Below w.heap.size w w' := by
 obtain rfl := Option.some.inj h
 exact areAll_dp okPart 30 #[] A0 c0 l0 w (enters_of Tryz.func30 Z21 rfl) Aa (fun W x _ => (impl_IsRecipe_1.calls x.f0 x.f1 _ W (okPart_total x)).mono fun e w' ⟨he, hd⟩ => ⟨he, by first | exact hd | exact hd.below⟩)
mutual
def impl_IsRecipe.j0 : Nat → List (S53) → Bool → Option (Bool)
 | 0, _, _ => none
 | k + 1, x0, x14 => if x14 = true then (some false) else (impl_IsRecipe.l0 k x0 1)
def impl_IsRecipe.l0 : Nat → List (S53) → Int → Option (Bool)
 | 0, _, _ => none
 | k + 1, x0, x4 => if x4 < (x0.length : Int) then (if 0 ≤ (wrap64 (x4 - 1)) then (if (wrap64 (x4 - 1)) < (x0.length : Int) then (if 0 ≤ x4 then (if ((Op.bytesLess (((rd_T53 x0 (wrap64 (x4 - 1))).f0).toList) (((rd_T53 x0 x4).f0).toList)) = true) then (impl_IsRecipe.l0 k x0 (wrap64 (x4 + 1))) else (some false)) else (none)) else (none)) else (none)) else (some true)
end
def impl_IsRecipe.f (k : Nat) (l0 : List (S53)) : Option (Bool) := (impl_in.f (l0.length : Int) 1 6).bind fun t206 => (if t206 = true then ((areAll_IsRecipe_1.f l0).bind fun t207 => (impl_IsRecipe.j0 k l0 (!t207))) else (impl_IsRecipe.j0 k l0 true))
theorem impl_IsRecipe.calls (k : Nat) (A0 : Option Addr) (c0 : Nat) (l0 : List (S53)) (r : Bool) (w : World) (Aw : Kd.C k53 w A0 l0.length l0) (Ax : l0.length ≤ c0) (h : impl_IsRecipe.f k l0 = some r) :
  Calls Tryz.prog 9 #[.slice A0 l0.length c0] w fun e w' => e = .returned (.bool r) ∧ Below w.heap.size w w' := by
 have Am := Aside0.mk Aw; have Ar := Aside0.mk Ax; clear Aw Ax; have HB := aM (Below.refl w.heap.size w); have H : ((impl_in.f (l0.length : Int) 1 6).bind fun Al => (if Al = true then ((areAll_IsRecipe_1.f l0).bind fun Af => (impl_IsRecipe.j0 k l0 (!Af))) else (impl_IsRecipe.j0 k l0 true))) = some r := h; clear h; have Au := Aside0.mk H; clear H
 go_enter Tryz.func9, Tryz.ntmps9
 go_upto_region 2 with (fail)
 repeat (go_quiet (fail); go_upto_region 2 with (fail))
 go_cut [14] (fun Ba wc => ∃ (kq : Nat) (Ak : Bool), Ba = .bool Ak ∧ Aside0 (impl_IsRecipe.j0 kq l0 Ak = some r) ∧ Aside0 (kq ≤ k) ∧ Aside0 (Below w.heap.size w wc))
 case first =>
  have H := Au.out; clear Au; replace H := Option.bind_eq_some_iff.mp H; obtain ⟨Al, Ay, H⟩ := H; replace H : (if Al = true then ((areAll_IsRecipe_1.f l0).bind fun Af => (impl_IsRecipe.j0 k l0 (!Af))) else (impl_IsRecipe.j0 k l0 true)) = some r := H; have A3 := Aside0.mk Ay; clear Ay
  by_cases c4 : Al = true
  ·subst c4
   have H1 : ((areAll_IsRecipe_1.f l0).bind fun Af => (impl_IsRecipe.j0 k l0 (!Af))) = some r := by rw [if_pos rfl] at H; exact H
   clear H; have H := H1; clear H1; replace H := Option.bind_eq_some_iff.mp H; obtain ⟨Af, Az, H⟩ := H; replace H : (impl_IsRecipe.j0 k l0 (!Af)) = some r := H; have A5 := Aside0.mk Az; clear Az; have H' := Aside0.mk H; clear H
   go_wp2_with (first | (go_at_call 20; (with_reducible refine (impl_in.calls (l0.length : Int) 1 6 true _ A3.out).mono ?_); rintro e w' ⟨rfl, ⟨nd, rfl⟩⟩; (try first | exact ⟨rfl, _, World.drewN_drewN _ _ _⟩ | exact ⟨rfl, _, Eq.trans (World.drewN_drewN _ _ _) (congrArg (World.drewN _) (Nat.add_assoc _ _ _))⟩)) | (go_at_call 32; (with_reducible refine (areAll_IsRecipe_1.calls _ _ l0 Af _ ?side1 ?side2 A5.out).mono ?_); (case side1 => repeat (first | exact (Kd.C_below Am.out Z0) | (with_reducible refine Kd.C_alloc ?_ _) | (with_reducible refine Kd.C_drewN ?_ _) | (with_reducible refine Kd.C_drew ?_))); (case side2 => exact Ar.out); rintro e w6 ⟨rfl, hb⟩; replace HB := hbS Z0 hb; (try clear hb)))
   repeat (go_quiet (first | (go_at_call 20; (with_reducible refine (impl_in.calls (l0.length : Int) 1 6 true _ A3.out).mono ?_); rintro e w' ⟨rfl, ⟨nd, rfl⟩⟩; (try first | exact ⟨rfl, _, World.drewN_drewN _ _ _⟩ | exact ⟨rfl, _, Eq.trans (World.drewN_drewN _ _ _) (congrArg (World.drewN _) (Nat.add_assoc _ _ _))⟩)) | (go_at_call 32; (with_reducible refine (areAll_IsRecipe_1.calls _ _ l0 Af _ ?side1 ?side2 A5.out).mono ?_); (case side1 => repeat (first | exact (Kd.C_below Am.out Z0) | (with_reducible refine Kd.C_alloc ?_ _) | (with_reducible refine Kd.C_drewN ?_ _) | (with_reducible refine Kd.C_drew ?_))); (case side2 => exact Ar.out); rintro e w6 ⟨rfl, hb⟩; replace HB := hbS Z0 hb; (try clear hb))); try go_wp2_with (first | (go_at_call 20; (with_reducible refine (impl_in.calls (l0.length : Int) 1 6 true _ A3.out).mono ?_); rintro e w' ⟨rfl, ⟨nd, rfl⟩⟩; (try first | exact ⟨rfl, _, World.drewN_drewN _ _ _⟩ | exact ⟨rfl, _, Eq.trans (World.drewN_drewN _ _ _) (congrArg (World.drewN _) (Nat.add_assoc _ _ _))⟩)) | (go_at_call 32; (with_reducible refine (areAll_IsRecipe_1.calls _ _ l0 Af _ ?side1 ?side2 A5.out).mono ?_); (case side1 => repeat (first | exact (Kd.C_below Am.out Z0) | (with_reducible refine Kd.C_alloc ?_ _) | (with_reducible refine Kd.C_drewN ?_ _) | (with_reducible refine Kd.C_drew ?_))); (case side2 => exact Ar.out); rintro e w6 ⟨rfl, hb⟩; replace HB := hbS Z0 hb; (try clear hb))))
   go_meet
   case rel => exact ⟨_, (!Af), Z12, H', ⟨Z90⟩, ⟨Z0⟩⟩
  ·replace c4 := Bool.eq_false_iff.mpr c4
   subst c4
   have H1 : (impl_IsRecipe.j0 k l0 true) = some r := by rw [if_neg (show ¬ (false = true) by decide)] at H; exact H
   clear H; have H := H1; clear H1; have H' := Aside0.mk H; clear H
   go_wp2_with (first | (go_at_call 20; (with_reducible refine (impl_in.calls (l0.length : Int) 1 6 false _ A3.out).mono ?_); rintro e w' ⟨rfl, ⟨nd, rfl⟩⟩; (try first | exact ⟨rfl, _, World.drewN_drewN _ _ _⟩ | exact ⟨rfl, _, Eq.trans (World.drewN_drewN _ _ _) (congrArg (World.drewN _) (Nat.add_assoc _ _ _))⟩)))
   repeat (go_quiet (first | (go_at_call 20; (with_reducible refine (impl_in.calls (l0.length : Int) 1 6 false _ A3.out).mono ?_); rintro e w' ⟨rfl, ⟨nd, rfl⟩⟩; (try first | exact ⟨rfl, _, World.drewN_drewN _ _ _⟩ | exact ⟨rfl, _, Eq.trans (World.drewN_drewN _ _ _) (congrArg (World.drewN _) (Nat.add_assoc _ _ _))⟩))); try go_wp2_with (first | (go_at_call 20; (with_reducible refine (impl_in.calls (l0.length : Int) 1 6 false _ A3.out).mono ?_); rintro e w' ⟨rfl, ⟨nd, rfl⟩⟩; (try first | exact ⟨rfl, _, World.drewN_drewN _ _ _⟩ | exact ⟨rfl, _, Eq.trans (World.drewN_drewN _ _ _) (congrArg (World.drewN _) (Nat.add_assoc _ _ _))⟩))))
   go_meet
   case rel => exact ⟨_, (true), Z12, H', ⟨Z90⟩, ⟨Z0⟩⟩
 case rest =>
  clear Au; (try clear p2); (try clear c4); obtain ⟨kq, Ak, rfl, HA, HJ1, HB⟩ := hcut; cases kq with
  | zero => exact absurd HA.out (by simp [impl_IsRecipe.j0])
  | succ Av =>
   have H := HA.out; clear HA
   simp only [impl_IsRecipe.j0] at H
   by_cases c7 : Ak = true
   ·subst c7
    have H1 : (some false) = some r := by rw [if_pos rfl] at H; exact H
    clear H; have H := H1; clear H1; obtain rfl := Option.some.inj H
    go_wp2
    repeat (go_quiet (fail); try go_wp2)
    go_ret
    exact ⟨Z11, Z0⟩
   ·replace c7 := Bool.eq_false_iff.mpr c7
    subst c7
    have H1 : (impl_IsRecipe.l0 Av l0 1) = some r := by rw [if_neg (show ¬ (false = true) by decide)] at H; exact H
    clear H; have H := H1; clear H1; have H' := Aside0.mk H; clear H
    go_wp2
    repeat (go_quiet (fail); try go_wp2)
    go_loopg [4] Av (fun kq v4 w' => ∃ (Aa : Int), v4 = .int .i64 Aa ∧ Aside0 (impl_IsRecipe.l0 kq l0 Aa = some r) ∧ Aside0 (kq ≤ Av) ∧ Aside0 (Below w.heap.size w w'))
    case atStart => exact ⟨(1), Z12, H', ⟨Nat.le_refl _⟩, ⟨Z0⟩⟩
    case round =>
     clear H'; (try clear p2); (try clear c4); (try clear c7); (try clear p2); obtain ⟨Aa, rfl, HA, HK2, HB⟩ := hrel; cases gk with
     | zero => exact absurd HA.out (by simp [impl_IsRecipe.l0])
     | succ k2 =>
      have H := HA.out; clear HA
      simp only [impl_IsRecipe.l0] at H
      by_cases c8 : Aa < (l0.length : Int)
      ·rw [if_pos c8] at H
       have c8b0 : decide (Aa < (l0.length : Int)) = true := decide_eq_true c8; clear c8; obtain ⟨ji9, hji9⟩ : ∃ j_ : Int, (wrap64 (Aa - 1)) = j_ := ⟨_, rfl⟩
       replace H : (if 0 ≤ (ji9) then (if (ji9) < (l0.length : Int) then (if 0 ≤ Aa then (if ((Op.bytesLess (((rd_T53 l0 (ji9)).f0).toList) (((rd_T53 l0 Aa).f0).toList)) = true) then (impl_IsRecipe.l0 k2 l0 (wrap64 (Aa + 1))) else (some false)) else (none)) else (none)) else (none)) = some r := by first | (rw [hji9] at H; exact H) | (simp only [hji9] at H ⊢; exact H)
       have hji9w : (IntKind.i64.wrap (Aa - 1)) = ji9 := (i64_w _).trans hji9
       by_cases Ao : 0 ≤ (ji9)
       ·rw [if_pos Ao] at H
        have c10b0 : decide (0 ≤ (ji9)) = true := decide_eq_true Ao; clear Ao
        by_cases Ap : (ji9) < (l0.length : Int)
        ·rw [if_pos Ap] at H
         have c11b0 : decide ((ji9) < (l0.length : Int)) = true := decide_eq_true Ap; clear Ap
         by_cases Aq : 0 ≤ Aa
         ·rw [if_pos Aq] at H
          have c12b0 : decide (0 ≤ Aa) = true := decide_eq_true Aq; clear Aq
          by_cases An : ((Op.bytesLess (((rd_T53 l0 (ji9)).f0).toList) (((rd_T53 l0 Aa).f0).toList)) = true)
          ·rw [if_pos An] at H
           have c13b0 : (Op.bytesLess (((rd_T53 l0 (ji9)).f0).toList) (((rd_T53 l0 Aa).f0).toList)) = true := An; clear An; have H' := Aside0.mk H; clear H; have Ag : 0 ≤ ((ji9) : Int) := of_decide_eq_true Z6; have Ah : (ji9) < (l0.length : Int) := of_decide_eq_true Z6; obtain ⟨ad208, e208, Ab, Ac⟩ := at_T53 Am.out (ji9) Ag Ah; cases e208; replace Ab := (HB.out.cell (World.block_lt_of_cell? w _ Ab)).trans Ab; replace Ac := (HB.out.cell (World.block_lt_of_cell? w _ Ac)).trans Ac; replace Ag := eq_true Ag; replace Ah := eq_true Ah; have Ai : 0 ≤ (Aa : Int) := of_decide_eq_true Z6; have Aj : Aa < (l0.length : Int) := of_decide_eq_true Z6; obtain ⟨ad209, e209, Ad, Ae⟩ := at_T53 Am.out Aa Ai Aj; obtain rfl : ad208 = ad209 := (by injection e209); replace Ad := (HB.out.cell (World.block_lt_of_cell? w _ Ad)).trans Ad; replace Ae := (HB.out.cell (World.block_lt_of_cell? w _ Ae)).trans Ae; replace Ai := eq_true Ai; replace Aj := eq_true Aj
           go_wp2
           repeat (go_quiet (fail); try go_wp2)
           go_roundg k2
           case measure => have := HJ1.out; have := HK2.out; omega
           case rel => exact ⟨(wrap64 (Aa + 1)), Z12, H', ⟨by have := HJ1.out; have := HK2.out; omega⟩, ⟨Z0⟩⟩
          ·rw [if_neg An] at H
           have c13b0 : (Op.bytesLess (((rd_T53 l0 (ji9)).f0).toList) (((rd_T53 l0 Aa).f0).toList)) = false := by simpa using An
           clear An; obtain rfl := Option.some.inj H; have Ag : 0 ≤ ((ji9) : Int) := of_decide_eq_true Z6; have Ah : (ji9) < (l0.length : Int) := of_decide_eq_true Z6; obtain ⟨ad208, e208, Ab, Ac⟩ := at_T53 Am.out (ji9) Ag Ah; cases e208; replace Ab := (HB.out.cell (World.block_lt_of_cell? w _ Ab)).trans Ab; replace Ac := (HB.out.cell (World.block_lt_of_cell? w _ Ac)).trans Ac; replace Ag := eq_true Ag; replace Ah := eq_true Ah; have Ai : 0 ≤ (Aa : Int) := of_decide_eq_true Z6; have Aj : Aa < (l0.length : Int) := of_decide_eq_true Z6; obtain ⟨ad209, e209, Ad, Ae⟩ := at_T53 Am.out Aa Ai Aj; obtain rfl : ad208 = ad209 := (by injection e209); replace Ad := (HB.out.cell (World.block_lt_of_cell? w _ Ad)).trans Ad; replace Ae := (HB.out.cell (World.block_lt_of_cell? w _ Ae)).trans Ae; replace Ai := eq_true Ai; replace Aj := eq_true Aj
           go_wp2
           repeat (go_quiet (fail); try go_wp2)
           go_ret
           exact ⟨Z100, Z0⟩
         ·rw [if_neg Aq] at H
          exact absurd H (by simp)
        ·rw [if_neg Ap] at H
         exact absurd H (by simp)
       ·rw [if_neg Ao] at H
        exact absurd H (by simp)
      ·rw [if_neg c8] at H
       have c8b0 : decide (Aa < (l0.length : Int)) = false := decide_eq_false c8; clear c8; obtain rfl := Option.some.inj H
       go_wp2
       repeat (go_quiet (fail); try go_wp2)
       go_ret
       exact ⟨Z11, Z0⟩
def cmp_isNaN_string.f (a0 : ByteArray) : Option (Bool) := some (a0.toList != a0.toList)
theorem cmp_isNaN_string.calls (a0 : ByteArray) (r : Bool) (w : World) (h : cmp_isNaN_string.f a0 = some r) :
  Calls Tryz.prog 50 #[.string a0] w fun e w' => e = .returned (.bool r) ∧ Drawn0 w w' := by
 have H : (some (a0.toList != a0.toList)) = some r := h; clear h; obtain rfl := Option.some.inj H
 go_enter Tryz.func50, Tryz.ntmps50
 go_wp2
 go_ret
 exact ⟨Z12, Z37⟩
def cmp_Compare_string.f (a0 : ByteArray) (a1 : ByteArray) : Option (Int) := (cmp_isNaN_string.f a0).bind fun t210 => ((cmp_isNaN_string.f a1).bind fun t211 => (if t210 = true then (if t211 = true then (some 0) else (some (-1))) else (if t211 = true then (some 1) else (if (Op.bytesLess a0.toList a1.toList) = true then (some (-1)) else (if (Op.bytesLess a1.toList a0.toList) = true then (some 1) else (some 0))))))
theorem cmp_Compare_string.calls (a0 : ByteArray) (a1 : ByteArray) (r : Int) (w : World) (h : cmp_Compare_string.f a0 a1 = some r) :
  Calls Tryz.prog 24 #[.string a0, .string a1] w fun e w' => e = .returned (.int .i64 r) ∧ Drawn0 w w' := by
 have H : ((cmp_isNaN_string.f a0).bind fun Ab => ((cmp_isNaN_string.f a1).bind fun Aa => (if Ab = true then (if Aa = true then (some 0) else (some (-1))) else (if Aa = true then (some 1) else (if (Op.bytesLess a0.toList a1.toList) = true then (some (-1)) else (if (Op.bytesLess a1.toList a0.toList) = true then (some 1) else (some 0))))))) = some r := h; clear h; replace H := Option.bind_eq_some_iff.mp H; obtain ⟨Ab, Ac, H⟩ := H; replace H : ((cmp_isNaN_string.f a1).bind fun Aa => (if Ab = true then (if Aa = true then (some 0) else (some (-1))) else (if Aa = true then (some 1) else (if (Op.bytesLess a0.toList a1.toList) = true then (some (-1)) else (if (Op.bytesLess a1.toList a0.toList) = true then (some 1) else (some 0)))))) = some r := H; have A3 := Aside0.mk Ac; clear Ac; replace H := Option.bind_eq_some_iff.mp H; obtain ⟨Aa, Ad, H⟩ := H; replace H : (if Ab = true then (if Aa = true then (some 0) else (some (-1))) else (if Aa = true then (some 1) else (if (Op.bytesLess a0.toList a1.toList) = true then (some (-1)) else (if (Op.bytesLess a1.toList a0.toList) = true then (some 1) else (some 0))))) = some r := H; have A4 := Aside0.mk Ad; clear Ad
 by_cases c5 : Ab = true
 ·subst c5
  have H1 : (if Aa = true then (some 0) else (some (-1))) = some r := by rw [if_pos rfl] at H; exact H
  clear H; have H := H1; clear H1
  by_cases c6 : Aa = true
  ·subst c6
   have H1 : (some 0) = some r := by rw [if_pos rfl] at H; exact H
   clear H; have H := H1; clear H1; obtain rfl := Option.some.inj H
   go_enter Tryz.func24, Tryz.ntmps24
   go_wp2_with (first | ((with_reducible refine gate_callee (f := 50) rfl ?_); refine glE (some 8) Tryz.func50 #[.string a0] ?_; (with_reducible refine (cmp_isNaN_string.calls a0 true _ A3.out).mono ?_); rintro e w' ⟨rfl, ⟨nd, rfl⟩⟩; refine ⟨_, rfl, ?_⟩) | ((with_reducible refine gate_callee (f := 50) rfl ?_); refine glE (some 10) Tryz.func50 #[.string a1] ?_; (with_reducible refine (cmp_isNaN_string.calls a1 true _ A4.out).mono ?_); rintro e w' ⟨rfl, ⟨nd, rfl⟩⟩; refine ⟨_, rfl, ?_⟩))
   go_ret
   exact ⟨Z12, Z37⟩
  ·replace c6 := Bool.eq_false_iff.mpr c6
   subst c6
   have H1 : (some (-1)) = some r := by rw [if_neg (show ¬ (false = true) by decide)] at H; exact H
   clear H; have H := H1; clear H1; obtain rfl := Option.some.inj H
   go_enter Tryz.func24, Tryz.ntmps24
   go_wp2_with (first | ((with_reducible refine gate_callee (f := 50) rfl ?_); refine glE (some 8) Tryz.func50 #[.string a0] ?_; (with_reducible refine (cmp_isNaN_string.calls a0 true _ A3.out).mono ?_); rintro e w' ⟨rfl, ⟨nd, rfl⟩⟩; refine ⟨_, rfl, ?_⟩) | ((with_reducible refine gate_callee (f := 50) rfl ?_); refine glE (some 10) Tryz.func50 #[.string a1] ?_; (with_reducible refine (cmp_isNaN_string.calls a1 false _ A4.out).mono ?_); rintro e w' ⟨rfl, ⟨nd, rfl⟩⟩; refine ⟨_, rfl, ?_⟩))
   go_ret
   exact ⟨Z12, Z37⟩
 ·replace c5 := Bool.eq_false_iff.mpr c5
  subst c5
  have H1 : (if Aa = true then (some 1) else (if (Op.bytesLess a0.toList a1.toList) = true then (some (-1)) else (if (Op.bytesLess a1.toList a0.toList) = true then (some 1) else (some 0)))) = some r := by rw [if_neg (show ¬ (false = true) by decide)] at H; exact H
  clear H; have H := H1; clear H1
  by_cases c7 : Aa = true
  ·subst c7
   have H1 : (some 1) = some r := by rw [if_pos rfl] at H; exact H
   clear H; have H := H1; clear H1; obtain rfl := Option.some.inj H
   go_enter Tryz.func24, Tryz.ntmps24
   go_wp2_with (first | ((with_reducible refine gate_callee (f := 50) rfl ?_); refine glE (some 8) Tryz.func50 #[.string a0] ?_; (with_reducible refine (cmp_isNaN_string.calls a0 false _ A3.out).mono ?_); rintro e w' ⟨rfl, ⟨nd, rfl⟩⟩; refine ⟨_, rfl, ?_⟩) | ((with_reducible refine gate_callee (f := 50) rfl ?_); refine glE (some 10) Tryz.func50 #[.string a1] ?_; (with_reducible refine (cmp_isNaN_string.calls a1 true _ A4.out).mono ?_); rintro e w' ⟨rfl, ⟨nd, rfl⟩⟩; refine ⟨_, rfl, ?_⟩))
   go_ret
   exact ⟨Z12, Z37⟩
  ·replace c7 := Bool.eq_false_iff.mpr c7
   subst c7
   have H1 : (if (Op.bytesLess a0.toList a1.toList) = true then (some (-1)) else (if (Op.bytesLess a1.toList a0.toList) = true then (some 1) else (some 0))) = some r := by rw [if_neg (show ¬ (false = true) by decide)] at H; exact H
   clear H; have H := H1; clear H1
   by_cases c8 : (Op.bytesLess a0.toList a1.toList) = true
   ·rw [if_pos c8] at H
    have c8b0 : (Op.bytesLess a0.toList a1.toList) = true := c8; clear c8; obtain rfl := Option.some.inj H
    go_enter Tryz.func24, Tryz.ntmps24
    go_wp2_with (first | ((with_reducible refine gate_callee (f := 50) rfl ?_); refine glE (some 8) Tryz.func50 #[.string a0] ?_; (with_reducible refine (cmp_isNaN_string.calls a0 false _ A3.out).mono ?_); rintro e w' ⟨rfl, ⟨nd, rfl⟩⟩; refine ⟨_, rfl, ?_⟩) | ((with_reducible refine gate_callee (f := 50) rfl ?_); refine glE (some 10) Tryz.func50 #[.string a1] ?_; (with_reducible refine (cmp_isNaN_string.calls a1 false _ A4.out).mono ?_); rintro e w' ⟨rfl, ⟨nd, rfl⟩⟩; refine ⟨_, rfl, ?_⟩))
    go_ret
    exact ⟨Z12, Z37⟩
   ·rw [if_neg c8] at H
    have c8b0 : (Op.bytesLess a0.toList a1.toList) = false := by simpa using c8
    clear c8
    by_cases c9 : (Op.bytesLess a1.toList a0.toList) = true
    ·rw [if_pos c9] at H
     have c9b0 : (Op.bytesLess a1.toList a0.toList) = true := c9; clear c9; obtain rfl := Option.some.inj H
     go_enter Tryz.func24, Tryz.ntmps24
     go_wp2_with (first | ((with_reducible refine gate_callee (f := 50) rfl ?_); refine glE (some 8) Tryz.func50 #[.string a0] ?_; (with_reducible refine (cmp_isNaN_string.calls a0 false _ A3.out).mono ?_); rintro e w' ⟨rfl, ⟨nd, rfl⟩⟩; refine ⟨_, rfl, ?_⟩) | ((with_reducible refine gate_callee (f := 50) rfl ?_); refine glE (some 10) Tryz.func50 #[.string a1] ?_; (with_reducible refine (cmp_isNaN_string.calls a1 false _ A4.out).mono ?_); rintro e w' ⟨rfl, ⟨nd, rfl⟩⟩; refine ⟨_, rfl, ?_⟩))
     go_ret
     exact ⟨Z12, Z37⟩
    ·rw [if_neg c9] at H
     have c9b0 : (Op.bytesLess a1.toList a0.toList) = false := by simpa using c9
     clear c9; obtain rfl := Option.some.inj H
     go_enter Tryz.func24, Tryz.ntmps24
     go_wp2_with (first | ((with_reducible refine gate_callee (f := 50) rfl ?_); refine glE (some 8) Tryz.func50 #[.string a0] ?_; (with_reducible refine (cmp_isNaN_string.calls a0 false _ A3.out).mono ?_); rintro e w' ⟨rfl, ⟨nd, rfl⟩⟩; refine ⟨_, rfl, ?_⟩) | ((with_reducible refine gate_callee (f := 50) rfl ?_); refine glE (some 10) Tryz.func50 #[.string a1] ?_; (with_reducible refine (cmp_isNaN_string.calls a1 false _ A4.out).mono ?_); rintro e w' ⟨rfl, ⟨nd, rfl⟩⟩; refine ⟨_, rfl, ?_⟩))
     go_ret
     exact ⟨Z12, Z37⟩
set_option maxHeartbeats 4000000 in
set_option maxRecDepth 100000 in
theorem grow_dp (n : Int) (hn : 0 ≤ n ∧ n ≤ 1000) (w0 w : World) (hB : Below w0.heap.size w0 w) :
  Calls Tryz.prog 47 #[.slice none 0 0, .int .i64 n] w fun e w' => ∃ v0_, e = .returned v0_ ∧ Kd.R k53 53 w' w0.heap.size (fun _ => True) v0_ ([] : List (S53)) ∧ Below w0.heap.size w0 w' := by
 have hu_ := Tryz.underlying53; have HB := Aside0.mk hB; have HN := Aside0.mk hn; have c0 : decide (n < 0) = false := decide_eq_false (by omega)
 have wz : wrap64 (n - 0) = n := by unfold wrap64; omega
 have wz2 : IntKind.i64.wrap (n - 0) = n := by rw [Int.sub_zero]; exact IntWalk.i64_in _ (by omega)
 have wz3 : wrap64 n = n := by unfold wrap64; omega
 have Ac : wrap64 (0 - 0) = 0 := by decide +kernel
 by_cases h0 : 0 < n
 ·have c1 : decide (0 < n) = true := decide_eq_true h0
  clear hB hn h0
  go_enter Tryz.func47, Tryz.ntmps47
  go_wp2_with (first | (at_builtin; go_loud (refine Kd.R_append_zeros k53 (w0 := w0) w0.heap.size rfl (.tmp 20) (.tmp 21) 24 3 53 (.agg #[(.string ⟨#[]⟩), (.int .i64 0)]) 24 rfl Tryz.underlying24 Tryz.underlying3 info53 rfl (by decide) (by omega) (.slice none 0 0) ([] : List (S53)) z53 (wrap64 n) (fun _ => True) ?s1 rfl ?s2 (fun _ _ => trivial) (Kd.R_nil _ _ _ _ _) (by rw [wz3]; exact HN.out.1) HB.out HB.out.size ?s3 ?_; (case s1 => first | rfl | (simp; done)); (case s2 => exact k53_mkM _ _ _ _); (case s3 => have := HN.out; rw [wz3]; simp only [List.length_nil]; omega); intro v1 w1 hR1 hB1 hg1 hat1; have Aa := Aside0.mk hR1; have Ab := Aside0.mk hB1; clear hR1 hB1 hg1 hat1; (obtain ⟨A1, c1_, hv1⟩ := Kd.R_slice Aa.out); subst hv1)))
  go_ret
  exact ⟨_, Z102, by have h := Kd.R_take Aa.out (m := 0) (Nat.zero_le _); rw [List.take_zero] at h; exact h, Ab.out⟩
 ·obtain rfl : n = 0 := by omega
  have c1 : decide ((0 : Int) < 0) = false := rfl; clear hB hn h0
  go_enter Tryz.func47, Tryz.ntmps47
  go_wp2
  go_ret
  exact ⟨_, Z102, Kd.R_nil _ _ _ _ _, HB.out⟩
def concat2.f (l0 l1 : List (S53)) : Option (List (S53)) := if l0.length ≤ 6 ∧ l1.length ≤ 6 then some (l0 ++ l1) else none
theorem concat2.calls (A0 : Option Addr) (c0 : Nat) (l0 : List (S53)) (A1 : Option Addr) (c1 : Nat) (l1 : List (S53)) (r : List (S53)) (w : World) (Ab : Kd.C k53 w A0 l0.length l0) (Ad : l0.length ≤ c0) (Ac : Kd.C k53 w A1 l1.length l1) (Ae : l1.length ≤ c1) (h : concat2.f l0 l1 = some r) :
  Calls Tryz.prog 21 #[.slice (some ⟨w.heap.size, 0, none⟩) 2 2] (w.alloc (.cells #[.slice A0 l0.length c0, .slice A1 l1.length c1] 24)) fun e w' => ∃ v0_ : Value, e = .returned (v0_) ∧ Kd.R k53 53 w' w.heap.size (fun _ => True) v0_ r ∧ Below w.heap.size w w' := by
 have hu_ := Tryz.underlying53
 unfold concat2.f at h
 by_cases hq : l0.length ≤ 6 ∧ l1.length ≤ 6
 case neg => rw [if_neg hq] at h; cases h
 rw [if_pos hq] at h; obtain rfl := Option.some.inj h; have HL := Aside0.mk hq; have Af := Aside0.mk Ab; have HR1_ := Aside0.mk Ac; have hB0 : Below w.heap.size w (w.alloc (.cells #[.slice A0 l0.length c0, .slice A1 l1.length c1] 24)) := below_alloc (Below.refl _ _) _; have hk := heap_alloc_new w (.cells #[.slice A0 l0.length c0, .slice A1 l1.length c1] 24)
 have hs : w.heap.size < (w.alloc (.cells #[.slice A0 l0.length c0, .slice A1 l1.length c1] 24)).heap.size := by simp
 obtain ⟨W0_, hW0⟩ : ∃ W_, W_ = (w.alloc (.cells #[.slice A0 l0.length c0, .slice A1 l1.length c1] 24)) := ⟨_, rfl⟩; rw [← hW0] at hB0 hk hs ⊢
 have CELLS : Aside0 (∀ W', Below W0_.heap.size W0_ W' → W'.cell? ⟨w.heap.size, 0, none⟩ = some (.slice A0 l0.length c0) ∧ W'.cell? ⟨w.heap.size, 1, none⟩ = some (.slice A1 l1.length c1)) :=
  ⟨fun W' h => ⟨(h.cell (p := ⟨w.heap.size, 0, none⟩) hs).trans ((blk_cell hk 0).trans rfl), (h.cell (p := ⟨w.heap.size, 1, none⟩) hs).trans ((blk_cell hk 1).trans rfl)⟩⟩
 have HG : Aside0 (Calls Tryz.prog 47 #[.slice none 0 0, .int .i64 ((l0.length : Int) + l1.length)] W0_ _) := ⟨grow_dp ((l0.length : Int) + l1.length) (by omega) W0_ W0_ (Below.refl _ _)⟩; have HS := Aside0.mk hs; have Aa := Aside0.mk hB0
 have wz0 : wrap64 (0 + (l0.length : Int)) = (l0.length : Int) := by unfold wrap64; omega
 have wz1 : wrap64 ((l0.length : Int)) = (l0.length : Int) := by unfold wrap64; omega
 have wz2 : wrap64 ((l0.length : Int) + (l1.length : Int)) = (l0.length : Int) + (l1.length : Int) := by unfold wrap64; omega
 have n0 : decide ((l0.length : Int) < 0) = false := decide_eq_false (by omega); have n1 : decide ((l0.length : Int) + (l1.length : Int) < 0) = false := decide_eq_false (by omega); clear Ab Ac Ad Ae h hq hB0 hk hs hW0
 go_enter Tryz.func21, Tryz.ntmps21
 go_wp2
 go_loopg [3, 5, 11] 2 (fun gg s3 s5 Ag wr => Aside0 (wr = W0_) ∧ ∃ x : Int, Ag = .int .i64 x ∧ Aside0 (2 - x ≤ gg) ∧ (x = 0 ∧ s3 = .int .i64 0 ∨ x = 1 ∧ s3 = .int .i64 l0.length ∨ x = 2 ∧ s3 = .int .i64 ((l0.length : Int) + l1.length)))
 case atStart => exact ⟨⟨rfl⟩, 0, rfl, ⟨by omega⟩, .inl ⟨rfl, rfl⟩⟩
 case round =>
  obtain ⟨HW, x, rfl, HX, hx⟩ := hrel; obtain rfl := HW.out.symm; obtain ⟨z0, z1⟩ := CELLS.out _ (Below.refl _ _)
  rcases hx with ⟨rfl, rfl⟩ | ⟨rfl, rfl⟩ | ⟨rfl, rfl⟩
  ·go_wp2
   go_roundg 1
   case measure => have := HX.out; omega
   case rel => exact ⟨⟨rfl⟩, 1, rfl, ⟨by omega⟩, .inr (.inl ⟨rfl, by first | rfl | (simp [wz0, wz1]; done)⟩)⟩
  ·go_wp2
   go_roundg 0
   case measure => have := HX.out; omega
   case rel => exact ⟨⟨rfl⟩, 2, rfl, ⟨by omega⟩, .inr (.inr ⟨rfl, by first | rfl | (simp [wz2]; done)⟩)⟩
  ·clear wz0 wz1 wz2 n0 n1 HX z0 z1 HW
   go_wp2_with fail
   refine HG.out.mono ?_; rintro e w1 ⟨v1, rfl, hR1, hB1⟩; have HRG := Aside0.mk hR1; have HBG := Aside0.mk hB1; clear hR1 hB1 HG
   go_wp2
   go_loopg [6, 8, 27] 2 (fun gg s6 s8 Ah wr => ∃ (x : Int) (xs : List (S53)), Ah = .int .i64 x ∧ Aside0 (2 - x ≤ gg) ∧ Aside0 (Kd.R k53 53 wr W0_.heap.size (fun _ => True) s6 xs) ∧ Aside0 (Below W0_.heap.size W0_ wr) ∧ (x = 0 ∧ xs = [] ∨ x = 1 ∧ xs = l0 ∨ x = 2 ∧ xs = l0 ++ l1))
   case atStart => exact ⟨0, [], rfl, ⟨by omega⟩, HRG, HBG, .inl ⟨rfl, rfl⟩⟩
   case round =>
    clear HRG HBG; obtain ⟨x, xs, rfl, HX, RO, BW, hx⟩ := hrel; obtain ⟨z0, z1⟩ := CELLS.out _ BW.out
    rcases hx with ⟨rfl, rfl⟩ | ⟨rfl, rfl⟩ | ⟨rfl, rfl⟩
    ·go_wp2_with (first | ((with_reducible refine gate_builtin (b := .append) (xs := #[.tmp 31, .tmp 32]) rfl ?_); at_builtin; refine Kd.R_append_rows k53 (w0 := W0_) W0_.heap.size rfl (.tmp 31) (.tmp 32) 24 53 (.agg #[(.string ⟨#[]⟩), (.int .i64 0)]) 24 rfl Tryz.underlying24 info53 rfl (by decide) (by omega) u6 ([] : List (S53)) l0 _ _ _ (fun _ => True) (fun _ => False) rfl rfl RO.out (Kd.C_below Af.out (below_step Aa.out BW.out)) (fun _ _ h => h) (fun _ h => h.elim) (fun _ _ => trivial) BW.out BW.out.size ?aL ?_; (case aL => have := HL.out; (try simp only [List.length_nil, List.length_append]); omega); intro v1 w1 hR1 hB1 hg1 hat1; have HRN := Aside0.mk hR1; have HBN := Aside0.mk hB1; clear hR1 hB1 hg1 hat1))
     go_roundg 1
     case measure => have := HX.out; omega
     case rel => exact ⟨1, _, rfl, ⟨by omega⟩, HRN, HBN, .inr (.inl ⟨rfl, List.nil_append _⟩)⟩
    ·go_wp2_with (first | ((with_reducible refine gate_builtin (b := .append) (xs := #[.tmp 31, .tmp 32]) rfl ?_); at_builtin; refine Kd.R_append_rows k53 (w0 := W0_) W0_.heap.size rfl (.tmp 31) (.tmp 32) 24 53 (.agg #[(.string ⟨#[]⟩), (.int .i64 0)]) 24 rfl Tryz.underlying24 info53 rfl (by decide) (by omega) u6 xs l1 _ _ _ (fun _ => True) (fun _ => False) rfl rfl RO.out (Kd.C_below HR1_.out (below_step Aa.out BW.out)) (fun _ _ h => h) (fun _ h => h.elim) (fun _ _ => trivial) BW.out BW.out.size ?aL ?_; (case aL => have := HL.out; (try simp only [List.length_nil, List.length_append]); omega); intro v1 w1 hR1 hB1 hg1 hat1; have HRN := Aside0.mk hR1; have HBN := Aside0.mk hB1; clear hR1 hB1 hg1 hat1))
     go_roundg 0
     case measure => have := HX.out; omega
     case rel => exact ⟨2, _, rfl, ⟨by omega⟩, HRN, HBN, .inr (.inr ⟨rfl, rfl⟩)⟩
    ·go_wp2
     go_ret
     exact ⟨_, rfl, Kd.R_lower RO.out Aa.out.size, below_step Aa.out BW.out⟩
def Grw (w w' : World) : Prop := ∃ (q : Nat) (os : Array Obj), w' = Go.Sort.grow (w.drewN q) os
theorem Grw.refl (w : World) : Grw w w := ⟨0, #[], by simp [Go.Sort.grow, World.drewN]⟩
theorem Grw.alloc {w W : World} (h : Grw w W) (o : Obj) : Grw w (W.alloc o) := by
 obtain ⟨q, os, rfl⟩ := h
 exact ⟨q, os ++ #[o], by rw [Go.Sort.alloc_eq_grow, Go.Sort.grow_grow]⟩
theorem Grw.drewN {w W : World} (h : Grw w W) (n : Nat) : Grw w (W.drewN n) := by
 obtain ⟨q, os, rfl⟩ := h
 exact ⟨q + n, os, by simp [Go.Sort.grow, World.drewN, Nat.add_assoc]⟩
theorem Grw.drew {w W : World} (h : Grw w W) : Grw w W.drew := h.drewN 1
theorem Grw.trans {w W W2 : World} (h : Grw w W) (k : Grw W W2) : Grw w W2 := by
 obtain ⟨q, os, rfl⟩ := h; obtain ⟨q2, os2, rfl⟩ := k
 exact ⟨q + q2, os ++ os2, by simp [Go.Sort.grow, World.drewN, Nat.add_assoc, Array.append_assoc]⟩
theorem Grw.below {w W : World} (h : Grw w W) : Below w.heap.size w W := by
 obtain ⟨q, os, rfl⟩ := h
 exact ⟨rfl, rfl, rfl, by simp [Go.Sort.grow, World.drewN], fun k hk => by simp [Go.Sort.grow, World.drewN, Array.getElem?_append_left hk]⟩
theorem Grw.drawn {w W : World} (h : Drawn0 w W) : Grw w W := by
 obtain ⟨n, rfl⟩ := h.out
 exact (Grw.refl w).drewN n
def lays_slices_SortFunc_loop_example_g01023_impl_DyePart_loop_example_g01023_impl_DyePart__ren : Go.Shelf.Ren := ⟨fun | 6 => 22 | 15 => 49 | 14 => 48 | 28 => 70 | 29 => 71 | 20 => 62 | 21 => 63 | 22 => 64 | 23 => 65 | 24 => 66 | 25 => 67 | 26 => 68 | 27 => 69 | 46 => 86 | 47 => 87 | 48 => 88 | 49 => 89 | 50 => 90 | 57 => 99 | n => n, fun | 22 => 24 | 24 => 53 | 25 => 56 | 3 => 3 | 39 => 75 | 0 => 0 | 53 => 95 | 55 => 44 | 4 => 4 | 46 => 89 | 45 => 88 | 50 => 36 | 5 => 5 | 9 => 9 | 66 => 106 | 70 => 110 | 76 => 121 | 77 => 122 | n => n, fun | n => n⟩
theorem lays_slices_SortFunc_loop_example_g01023_impl_DyePart_loop_example_g01023_impl_DyePart_ : Go.Proofs.SlLaysF0.n6 Tryz.prog lays_slices_SortFunc_loop_example_g01023_impl_DyePart_loop_example_g01023_impl_DyePart__ren := {
 mixed := by kernel_rfl
 f6 := ⟨Tryz.f22.name, by decide, Tryz.func22.trans (congrArg some Z21)⟩
 f14 := ⟨Tryz.f48.name, by decide, Tryz.func48.trans (congrArg some Z21)⟩
 f15 := Tryz.func49.trans (congrArg some Z21)
 f20 := ⟨Tryz.f62.name, by decide, Tryz.func62.trans (congrArg some Z21)⟩
 f21 := ⟨Tryz.f63.name, by decide, Tryz.func63.trans (congrArg some Z21)⟩
 f22 := ⟨Tryz.f64.name, by decide, Tryz.func64.trans (congrArg some Z21)⟩
 f23 := ⟨Tryz.f65.name, by decide, Tryz.func65.trans (congrArg some Z21)⟩
 f24 := ⟨Tryz.f66.name, by decide, Tryz.func66.trans (congrArg some Z21)⟩
 f25 := ⟨Tryz.f67.name, by decide, Tryz.func67.trans (congrArg some Z21)⟩
 f26 := ⟨Tryz.f68.name, by decide, Tryz.func68.trans (congrArg some Z21)⟩
 f27 := ⟨Tryz.f69.name, by decide, Tryz.func69.trans (congrArg some Z21)⟩
 f28 := Tryz.func70.trans (congrArg some Z21)
 f29 := Tryz.func71.trans (congrArg some Z21)
 f46 := ⟨Tryz.f86.name, by decide, Tryz.func86.trans (congrArg some Z21)⟩
 f47 := Tryz.func87.trans (congrArg some Z21)
 f48 := Tryz.func88.trans (congrArg some Z21)
 f49 := ⟨Tryz.f89.name, by decide, Tryz.func89.trans (congrArg some Z21)⟩
 f50 := ⟨Tryz.f90.name, by decide, Tryz.func90.trans (congrArg some Z21)⟩
 f57 := ⟨Tryz.f99.name, by decide, Tryz.func99.trans (congrArg some Z21)⟩
 t0 := Tryz.underlying0
 a0 := Tryz.isAgg0
 z0 := Tryz.sizeOf0
 v0 := Tryz.zeroValue0
 t3 := Tryz.underlying3
 a3 := Tryz.isAgg3
 z3 := Tryz.sizeOf3
 v3 := Tryz.zeroValue3
 t4 := Tryz.underlying4
 a4 := Tryz.isAgg4
 z4 := Tryz.sizeOf4
 v4 := Tryz.zeroValue4
 t5 := Tryz.underlying5
 a5 := Tryz.isAgg5
 z5 := Tryz.sizeOf5
 v5 := Tryz.zeroValue5
 t9 := Tryz.underlying9
 a9 := Tryz.isAgg9
 z9 := Tryz.sizeOf9
 v9 := Tryz.zeroValue9
 t22 := Tryz.underlying24
 a22 := Tryz.isAgg24
 z22 := Tryz.sizeOf24
 v22 := Tryz.zeroValue24
 t25 := Tryz.underlying56
 a25 := Tryz.isAgg56
 z25 := Tryz.sizeOf56
 v25 := Tryz.zeroValue56
 t39 := Tryz.underlying75
 a39 := Tryz.isAgg75
 z39 := Tryz.sizeOf75
 v39 := Tryz.zeroValue75
 t45 := Tryz.underlying88
 a45 := Tryz.isAgg88
 z45 := Tryz.sizeOf88
 v45 := Tryz.zeroValue88
 t46 := Tryz.underlying89
 a46 := Tryz.isAgg89
 z46 := Tryz.sizeOf89
 v46 := Tryz.zeroValue89
 t50 := Tryz.underlying36
 a50 := Tryz.isAgg36
 z50 := Tryz.sizeOf36
 v50 := Tryz.zeroValue36
 t53 := Tryz.underlying95
 a53 := Tryz.isAgg95
 z53 := Tryz.sizeOf95
 v53 := Tryz.zeroValue95
 t55 := Tryz.underlying44
 a55 := Tryz.isAgg44
 z55 := Tryz.sizeOf44
 v55 := Tryz.zeroValue44
 t66 := Tryz.underlying106
 a66 := Tryz.isAgg106
 z66 := Tryz.sizeOf106
 v66 := Tryz.zeroValue106
 t70 := Tryz.underlying110
 a70 := Tryz.isAgg110
 z70 := Tryz.sizeOf110
 v70 := Tryz.zeroValue110
 t76 := Tryz.underlying121
 a76 := Tryz.isAgg121
 z76 := Tryz.sizeOf121
 v76 := Tryz.zeroValue121
 t77 := Tryz.underlying122
 a77 := Tryz.isAgg122
 z77 := Tryz.sizeOf122
 v77 := Tryz.zeroValue122 }
instance : Inhabited S53 := ⟨z53⟩
def enc_dp (x : S53) : List Value := [.string x.f0, .int .i64 x.f1]
def row_dp (l : List S53) : List Value := (Sort.flatK enc_dp 2 l.toArray).toList
theorem row_dp_len (l : List S53) : (row_dp l).length = l.length * 2 := by unfold row_dp; simp
theorem row_dp_at (l : List S53) (m : Nat) (h : m < l.length) : ((row_dp l).drop (m * 2)).take 2 = enc_dp l[m] := by
 have hl := row_dp_len l
 have e : l.toArray[m]! = l[m] := by simp [h]
 have h0 := Sort.get_flatK enc_dp 2 l.toArray (m * 2) (by simp; omega); rw [show (m * 2) / 2 = m from by omega, show (m * 2) % 2 = 0 from by omega, e] at h0
 have g0 : (row_dp l)[m * 2]'(by omega) = Value.string l[m].f0 := by
  unfold row_dp
  rw [Array.getElem_toList, ← getElem!_pos (Sort.flatK enc_dp 2 l.toArray) (m * 2) (by simp; omega), h0]
  rfl
 have h1 := Sort.get_flatK enc_dp 2 l.toArray (m * 2 + 1) (by simp; omega); rw [show (m * 2 + 1) / 2 = m from by omega, show (m * 2 + 1) % 2 = 1 from by omega, e] at h1
 have g1 : (row_dp l)[m * 2 + 1]'(by omega) = Value.int .i64 l[m].f1 := by
  unfold row_dp
  rw [Array.getElem_toList, ← getElem!_pos (Sort.flatK enc_dp 2 l.toArray) (m * 2 + 1) (by simp; omega), h1]
  rfl
 rw [List.drop_eq_getElem_cons (show m * 2 < (row_dp l).length from by omega), g0, List.drop_eq_getElem_cons (show m * 2 + 1 < (row_dp l).length from by omega), g1]
 rfl
theorem srt_dp_grow {w : World} {os : Array Obj} {k : Nat} (hk : k < w.heap.size) : (Sort.grow w os).heap[k]? = w.heap[k]? := by
 unfold Sort.grow
 exact Array.getElem?_append_left hk
theorem srt_dp_holds {w : World} {base g n cap : Nat} {ok : Nat → Prop} {xs : List S53} (h : Kd.R k53 53 w base ok (.slice (some ⟨g, 0, none⟩) n cap) xs) : Sort.HoldsK enc_dp 2 w g 0 xs.toArray ∧ xs.length = n ∧ n ≤ cap ∧ g < w.heap.size := by
 obtain ⟨hn, hnc, _⟩ := Kd.R_reads' h; obtain ⟨_, inner, ho, hr⟩ := h; obtain ⟨cells, hc⟩ := own_typed ho g (by simp [Value.ownBlock]); refine ⟨fun j hj => ?_, hn.symm, hnc, ?_⟩
 ·have hj' : j < xs.length * 2 := by simpa using hj
  have hx := ho.cells (g := g) (by simp [Value.ownBlock])
  have hm : j / 2 < xs.length := by omega
  have hM := k53_openM (hr.2 (j / 2) _ (List.getElem?_eq_getElem hm)); have hM2 : (inner.drop (j / 2 * 2)).take 2 = enc_dp xs[j / 2] := hM
  have hin : inner[j]? = some (enc_dp xs[j / 2])[j % 2]! := by
   have h2 : ((inner.drop (j / 2 * 2)).take 2)[j % 2]? = some (enc_dp xs[j / 2])[j % 2]! := by
    rw [hM2]
    rcases (by omega : j % 2 = 0 ∨ j % 2 = 1) with e | e <;> rw [e] <;> rfl
   rw [List.getElem?_take_of_lt (by omega), List.getElem?_drop] at h2; rwa [show j / 2 * 2 + j % 2 = j from by omega] at h2
  refine ⟨?_, blk_frozen hc _⟩; have := hx j _ hin; rw [add_plain] at this; rw [Nat.zero_add]; rw [this]; rw [Sort.get_flatK _ _ _ _ (by simpa using hj')]
  simp [hm]
 ·rcases Nat.lt_or_ge g w.heap.size with hlt | hge
  ·exact hlt
  ·rw [Array.getElem?_eq_none hge] at hc; cases hc
theorem srt_dp_put {w : World} {base g n cap : Nat} {ok : Nat → Prop} {xs ys : List S53} (h : Kd.R k53 53 w base ok (.slice (some ⟨g, 0, none⟩) n cap) xs) (hl : ys.length = n) (q : Nat) (os : Array Obj) :
  Kd.R k53 53 (Sort.grow ((w.drewN q).setCells g 0 (row_dp ys)) os) base ok (.slice (some ⟨g, 0, none⟩) n cap) ys ∧ w.grownBy (Sort.grow ((w.drewN q).setCells g 0 (row_dp ys)) os) (some g) := by
 obtain ⟨hok, inner, ⟨Ab, Aa⟩, hr⟩ := h
 rcases Aa with ⟨hv, _⟩ | ⟨g', cap', cur, hv, hb, hh, hnc, hcm, hcs, ht⟩
 ·cases hv
 injection hv with ha hn hc; injection ha with ha; injection ha with hg; subst hg; subst hc
 have hgs : g < w.heap.size := by
  rcases Nat.lt_or_ge g w.heap.size with hlt | hge
  ·exact hlt
  ·rw [Array.getElem?_eq_none hge] at hh; cases hh
 have hh' : (w.drewN q).heap[g]? = some (.cells cur 53 (0, 0)) := hh; have hcz : cur.size = cap * 2 := hcs; have hrl := row_dp_len ys; obtain ⟨cur', h3, h4, h5⟩ := setCells_row (row_dp ys) 0 (w.drewN q) cur hh' (by omega); obtain ⟨s1, s2, s3, s4⟩ := setCells_same g (row_dp ys) 0 (w.drewN q); have s5 : ((w.drewN q).setCells g 0 (row_dp ys)).heap.size = w.heap.size := s4
 have ht' : cur'.toList.take (n * 2) = row_dp ys := by
  rw [h5, List.take_zero, List.nil_append]
  exact List.take_left' (by omega)
 refine ⟨⟨hok, row_dp ys, ⟨?_, .inr ⟨g, cap, cur', ?_, hb, ?_, ?_, hcm, ?_, ?_⟩⟩, ?_, ?_⟩, ⟨s1, s2, s3, ?_, fun k hk hne => ?_⟩⟩
 ·exact hrl
 ·rw [hl]
 ·rw [srt_dp_grow (by rw [s5]; exact hgs)]; exact h3
 ·omega
 ·rw [h4, hcs]
 ·rw [hl]; exact ht'
 ·exact hrl
 ·intro m p hp
  have hm : m < ys.length := by
   rcases Nat.lt_or_ge m ys.length with h | h
   ·exact h
   ·rw [List.getElem?_eq_none h] at hp; cases hp
  rw [List.getElem?_eq_getElem hm] at hp; have e := row_dp_at ys m hm; rw [← Option.some.inj hp]
  show k53.M _ _ _ ys[m] (((row_dp ys).drop (m * 2)).take 2)
  rw [e]
  exact k53_mkM _ _ _ _
 ·unfold Sort.grow
  rw [Array.size_append, s5]
  exact Nat.le_add_right _ _
 ·rw [srt_dp_grow (by rw [s5]; exact hk)]
  exact setCells_far _ 0 k (fun e => hne (by rw [e]))
def sorted_dp (cf : S53 → S53 → Int) (l : List S53) : List S53 := (Sort.pdq (ltOf cf) l.toArray 0 l.length (Lib.bitLen l.length) true true).toList
theorem sorted_dp_perm {cf : S53 → S53 → Int} (hO : Sort.SWO (ltOf cf)) (l : List S53) : (sorted_dp cf l).Perm l ∧ ∀ i j (hi : i < (sorted_dp cf l).length) (hj : j < (sorted_dp cf l).length), i < j → ltOf cf (sorted_dp cf l)[j] (sorted_dp cf l)[i] = false := by
 have h := Sort.pdq_sorts (ltOf cf) hO l.toArray 0 l.toArray.size (Lib.bitLen l.toArray.size) true true (Nat.zero_le _) (Nat.le_refl _) (Or.inl rfl)
 have ez : l.toArray.size = l.length := by simp
 rw [ez] at h
 unfold sorted_dp
 generalize Sort.pdq (ltOf cf) l.toArray 0 l.length (Lib.bitLen l.length) true true = D at h ⊢
 obtain ⟨⟨p1, _, p3⟩, hs⟩ := h
 have e1 : D.extract 0 l.length = D := by
  rw [← ez, ← p1]
  exact Array.extract_size
 have e2 : l.toArray.extract 0 l.length = l.toArray := by
  have := Array.extract_size (xs := l.toArray); rwa [ez] at this
 rw [e1, e2] at p3; refine ⟨p3, fun i j hi hj hij => ?_⟩; have hz : D.toList.length = l.length := p3.length_eq; have := hs i j (Nat.zero_le _) hij (by omega); rw [getElem!_pos D i (by rw [p1, ez]; omega), getElem!_pos D j (by rw [p1, ez]; omega)] at this
 simpa using this
theorem sorted_dp_len {cf : S53 → S53 → Int} (hO : Sort.SWO (ltOf cf)) (l : List S53) : (sorted_dp cf l).length = l.length := (sorted_dp_perm hO l).1.length_eq
theorem sorted_dp_nil {cf : S53 → S53 → Int} (hO : Sort.SWO (ltOf cf)) : sorted_dp cf [] = [] := List.eq_nil_of_length_eq_zero (sorted_dp_len hO [])
set_option maxHeartbeats 4000000 in
set_option maxRecDepth 100000 in
theorem SortFunc_dp {cf : S53 → S53 → Int} (hO : Sort.SWO (ltOf cf)) (g : Nat) (cb : Array Value) (eg : ∀ args w, (callFunc g args).run Tryz.prog w = .ok (.enter g args) w) (P0_ : Nat → Prop) (u : Value) (l0 : List S53) (w0 w : World) (hB : Below w0.heap.size w0 w) (Aa : Kd.R k53 53 w w0.heap.size P0_ u l0) (hl : l0.length ≤ 1000000)
  (hC : ∀ blk, w0.heap.size ≤ blk → P0_ blk → blk < w.heap.size → CmpLays Tryz.prog g cb enc_dp 2 cf blk 0 l0.toArray.size w) :
  Calls Tryz.prog 22 #[u, .func (.func g) #[] cb] w fun e w' => e = .returned (.tuple #[]) ∧ Kd.R k53 53 w' w0.heap.size (fun k_ => (P0_ k_ ∨ w.heap.size ≤ k_)) u (sorted_dp cf l0) ∧ Below w0.heap.size w0 w' ∧ Kept w w' (fun k_ => P0_ k_) := by
 by_cases hp : 0 < l0.length
 ·obtain ⟨blk, cap, rfl, hge, hgl, _⟩ := Kd.R_form Aa hp
  obtain ⟨hH, _, hnc, hg⟩ := srt_dp_holds Aa
  have hsz : l0.toArray.size = l0.length := by simp
  have hok : P0_ blk := Aa.1 blk (by simp [Value.ownBlock])
  have key : ∀ (ys : List S53) (q : Nat) (os : Array Obj), ys.length = l0.length → Kd.R k53 53 (sortWorldK enc_dp 2 w blk 0 q ys.toArray os) w0.heap.size (fun k_ => (P0_ k_ ∨ w.heap.size ≤ k_)) (.slice (some ⟨blk, 0, none⟩) l0.length cap) ys ∧ Below w0.heap.size w0 (sortWorldK enc_dp 2 w blk 0 q ys.toArray os) ∧ Kept w (sortWorldK enc_dp 2 w blk 0 q ys.toArray os) (fun k_ => P0_ k_) := by
   intro ys q os hy
   have e : Go.Sort.putRowK enc_dp 2 (Go.Sort.ahead w q) blk 0 ys.toArray = (w.drewN q).setCells blk 0 (row_dp ys) := by
    have := Lib.putRow_eq_setCells id w blk 0 (Go.Sort.flatK enc_dp 2 l0.toArray) (row_dp ys) q hH (by rw [row_dp_len]; simp [hy]); rw [List.map_id] at this; rw [← this]
    unfold Go.Sort.putRowK row_dp
    rw [Array.toArray_toList]
   obtain ⟨hR, hG⟩ := srt_dp_put Aa hy q os
   unfold sortWorldK
   rw [e]
   exact ⟨Kd.R_mono hR (fun k_ hk => .inl hk), hB.grown hG hB.size (fun k hk => by injection hk with hk; subst hk; exact hge), Kept.of_grown (S := fun k_ => P0_ k_) hG (Kept.refl w _) (fun k_ e_ => .inl (Aa.1 k_ e_))⟩
  have h1 : Calls Tryz.prog 22 #[.slice (some ⟨blk, 0, none⟩) l0.toArray.size cap, .func (.func g) #[] cb] w _ := AnyQ.slices_SortFunc_eq lays_slices_SortFunc_loop_example_g01023_impl_DyePart_loop_example_g01023_impl_DyePart_ 2 Tryz.isAgg53 Tryz.sizeOf53 enc_dp (fun _ => rfl) (fun x v hv => by simp [enc_dp] at hv; rcases hv with rfl | rfl <;> rfl) cf hO g cb blk 0 cap l0.toArray w eg (hC blk hge hok hg) hH hg (by rw [hsz]; omega); rw [hsz] at h1; refine h1.mono ?_; rintro e w' ⟨he, n, os, rfl⟩; have hk := key (sorted_dp cf l0) n os (sorted_dp_len hO l0)
  have ea : (sorted_dp cf l0).toArray = Sort.pdq (ltOf cf) l0.toArray 0 l0.length (Lib.bitLen l0.length) true true := by unfold sorted_dp; exact Array.toArray_toList
  rw [ea] at hk
  exact ⟨he, hk⟩
 ·have hn : l0 = [] := List.eq_nil_of_length_eq_zero (by omega)
  subst hn; obtain ⟨A, c, rfl⟩ := Kd.R_slice Aa; have h1 : Calls Tryz.prog 22 #[.slice A 0 c, .func (.func g) #[] cb] w _ := AnyF.slices_SortFunc_none lays_slices_SortFunc_loop_example_g01023_impl_DyePart_loop_example_g01023_impl_DyePart_ A c (.func (.func g) #[] cb) w; refine h1.mono ?_; rintro e w' ⟨he, rfl⟩; refine ⟨he, ?_, hB, Kept.refl _ _⟩; rw [sorted_dp_nil hO]
  exact Kd.R_mono Aa (fun k_ hk => .inl hk)
set_option maxHeartbeats 4000000 in
set_option maxRecDepth 100000 in
theorem findStuff_1 (b : Nat) (x : S53) (a1 : ByteArray) (W : World) (hc : W.cell? ⟨b, 0, none⟩ = some (.string a1)) (hb : b < W.heap.size) :
  Calls Tryz.prog 73 #[.agg #[.string x.f0, .int .i64 x.f1], .pointer (some ⟨b, 0, none⟩)] W fun e w' => e = .returned (.bool (decide (x.f0.toList = a1.toList))) ∧ Below W.heap.size W w' := by
 have hu_ := Tryz.underlying53; have hB1 : Below W.heap.size W (W.alloc (.cells #[.string x.f0, .int .i64 x.f1] 53)) := below_alloc (Below.refl _ _) _; have Aa : (W.alloc (.cells #[.string x.f0, .int .i64 x.f1] 53)).cell? ⟨b, 0, none⟩ = some (.string a1) := (hB1.cell (p := ⟨b, 0, none⟩) hb).trans hc; have HB := Aside0.mk hB1; clear hB1 hc
 by_cases h : x.f0.toList = a1.toList
 ·have d0 : (x.f0.toList == a1.toList) = true := beq_iff_eq.2 h
  rw [decide_eq_true h]; clear h
  go_enter Tryz.func73, Tryz.ntmps73
  go_wp2
  go_ret
  exact ⟨by first | rfl | (simp; done) | (simp [d0]; done), HB.out⟩
 ·have d0 : (x.f0.toList == a1.toList) = false := beq_eq_false_iff_ne.2 h
  rw [decide_eq_false h]; clear h
  go_enter Tryz.func73, Tryz.ntmps73
  go_wp2
  go_ret
  exact ⟨by first | rfl | (simp; done) | (simp [d0]; done), HB.out⟩
def impl_findStuff.f (l0 : List (S53)) (a1 : ByteArray) : Option Int := some (findI (fun x => decide (x.f0.toList = a1.toList)) l0)
theorem impl_findStuff.calls (A0 : Option Addr) (c0 : Nat) (l0 : List (S53)) (a1 : ByteArray) (r : Int) (w : World) (Aa : Kd.C k53 w A0 l0.length l0) (Ab : l0.length ≤ c0) (h : impl_findStuff.f l0 a1 = some r) :
  Calls Tryz.prog 51 #[.slice A0 l0.length c0, .string a1] w fun e w' => e = .returned (.int .i64 r) ∧ Below w.heap.size w w' := by
 obtain rfl := Option.some.inj h
 have hmf : ∀ (fn : Fn) (first cap : Array Value) (w : World), (Instr.makeFunc fn first cap).run Tryz.prog w = .ok (.func fn first cap) w := fun _ _ _ _ => rfl
 have hB1 : Below w.heap.size w (w.alloc (.cells #[.string a1] 9)) := below_alloc (Below.refl _ _) _
 have hcell : (w.alloc (.cells #[.string a1] 9)).cell? ⟨w.heap.size, 0, none⟩ = some (.string a1) := by simp
 have hsz : w.heap.size < (w.alloc (.cells #[.string a1] 9)).heap.size := by simp
 have h3 := IndexFunc_dp (fun x => decide (x.f0.toList = a1.toList)) 73 #[.pointer (some ⟨w.heap.size, 0, none⟩)] A0 c0 l0 (w.alloc (.cells #[.string a1] 9)) (enters_of Tryz.func73 Z21 rfl) (Kd.C_below Aa hB1)
  (fun W2 x hb2 => findStuff_1 w.heap.size x a1 W2 ((hb2.cell (p := ⟨w.heap.size, 0, none⟩) hsz).trans hcell) (Nat.lt_of_lt_of_le hsz hb2.size))
 have H3 := Aside0.mk h3; have HB := Aside0.mk hB1; clear h3 hB1 hcell Aa Ab hsz h
 go_enter Tryz.func51, Tryz.ntmps51
 go_wp2_with fail
 refine H3.out.mono ?_; rintro e w2 ⟨rfl, hb2⟩
 go_wp2
 go_ret
 exact ⟨Z102, below_step HB.out hb2⟩
def impl_perMilOf.f (l0 : List (S53)) (a1 : ByteArray) : Option (Int) := (impl_findStuff.f l0 a1).bind fun t212 => (if t212 ≥ 0 then (if 0 ≤ t212 then (if t212 < (l0.length : Int) then (some ((rd_T53 l0 t212).f1)) else (none)) else (none)) else (some 0))
theorem impl_perMilOf.calls (A0 : Option Addr) (c0 : Nat) (l0 : List (S53)) (a1 : ByteArray) (r : Int) (w : World) (Ag : Kd.C k53 w A0 l0.length l0) (Ah : l0.length ≤ c0) (h : impl_perMilOf.f l0 a1 = some r) :
  Calls Tryz.prog 25 #[.slice A0 l0.length c0, .string a1] w fun e w' => e = .returned (.int .i64 r) ∧ Below w.heap.size w w' := by
 have Af := Aside0.mk Ag; have Ai := Aside0.mk Ah; clear Ag Ah; have HB := aM (Below.refl w.heap.size w); have H : ((impl_findStuff.f l0 a1).bind fun Aa => (if Aa ≥ 0 then (if 0 ≤ Aa then (if Aa < (l0.length : Int) then (some ((rd_T53 l0 Aa).f1)) else (none)) else (none)) else (some 0))) = some r := h; clear h; replace H := Option.bind_eq_some_iff.mp H; obtain ⟨Aa, Aj, H⟩ := H; replace H : (if Aa ≥ 0 then (if 0 ≤ Aa then (if Aa < (l0.length : Int) then (some ((rd_T53 l0 Aa).f1)) else (none)) else (none)) else (some 0)) = some r := H; have A3 := Aside0.mk Aj; clear Aj
 by_cases c4 : Aa ≥ 0
 ·rw [if_pos c4] at H
  have c4b0 : decide (0 ≤ Aa) = true := decide_eq_true c4; clear c4
  by_cases c5 : 0 ≤ Aa
  ·rw [if_pos c5] at H
   have c5b0 : decide (0 ≤ Aa) = true := decide_eq_true c5; clear c5
   by_cases c6 : Aa < (l0.length : Int)
   ·rw [if_pos c6] at H
    have c6b0 : decide (Aa < (l0.length : Int)) = true := decide_eq_true c6; clear c6; obtain rfl := Option.some.inj H
    go_enter Tryz.func25, Tryz.ntmps25
    go_wp2_with (first | ((with_reducible refine gate_callee (f := 51) rfl ?_); refine glE (some 8) Tryz.func51 #[.slice A0 l0.length c0, .string a1] ?_; (with_reducible refine (impl_findStuff.calls _ _ l0 a1 Aa _ ?side1 ?side2 A3.out).mono ?_); (case side1 => exact Z103); (case side2 => exact Ai.out); rintro e w7 ⟨rfl, hb⟩; refine ⟨_, rfl, ?_⟩; replace HB := hbS Z0 hb; (try clear hb); have Ad : 0 ≤ (Aa : Int) := of_decide_eq_true Z6; have Ae : Aa < (l0.length : Int) := of_decide_eq_true Z6; obtain ⟨ad213, e213, Ab, Ac⟩ := at_T53 Af.out Aa Ad Ae; cases e213; replace Ab := (HB.out.cell (World.block_lt_of_cell? w _ Ab)).trans Ab; replace Ac := (HB.out.cell (World.block_lt_of_cell? w _ Ac)).trans Ac; replace Ad := eq_true Ad; replace Ae := eq_true Ae))
    go_ret
    exact ⟨Z11, Z0⟩
   ·rw [if_neg c6] at H
    exact absurd H (by simp)
  ·rw [if_neg c5] at H
   exact absurd H (by simp)
 ·rw [if_neg c4] at H
  have c4b0 : decide (0 ≤ Aa) = false := decide_eq_false c4; clear c4; obtain rfl := Option.some.inj H
  go_enter Tryz.func25, Tryz.ntmps25
  go_wp2_with (first | ((with_reducible refine gate_callee (f := 51) rfl ?_); refine glE (some 8) Tryz.func51 #[.slice A0 l0.length c0, .string a1] ?_; (with_reducible refine (impl_findStuff.calls _ _ l0 a1 Aa _ ?side1 ?side2 A3.out).mono ?_); (case side1 => exact Z103); (case side2 => exact Ai.out); rintro e w8 ⟨rfl, hb⟩; refine ⟨_, rfl, ?_⟩; replace HB := hbS Z0 hb; (try clear hb)))
  go_ret
  exact ⟨Z11, Z0⟩
def impl_ceilDiv.f (a0 : Int) (a1 : Int) : Option (Int) := if a1 = 0 then (none) else (some (wrap64 (Int.tdiv (wrap64 ((wrap64 (a0 + a1)) - 1)) a1)))
theorem impl_ceilDiv.calls (a0 : Int) (a1 : Int) (r : Int) (w : World) (h : impl_ceilDiv.f a0 a1 = some r) :
  Calls Tryz.prog 26 #[.int .i64 a0, .int .i64 a1] w fun e w' => e = .returned (.int .i64 r) ∧ Drawn0 w w' := by
 have H : (if a1 = 0 then (none) else (some (wrap64 (Int.tdiv (wrap64 ((wrap64 (a0 + a1)) - 1)) a1)))) = some r := h; clear h
 by_cases c3 : a1 = 0
 ·rw [if_pos c3] at H
  exact absurd H (by simp)
 ·rw [if_neg c3] at H
  have c3b0 : (a1 == 0) = false := beq_eq_false_iff_ne.mpr c3; have c3b1 : (a1 != 0) = true := bne_iff_ne.mpr c3; obtain rfl := Option.some.inj H
  go_enter Tryz.func26, Tryz.ntmps26
  go_wp2
  go_ret
  exact ⟨Z12, Z37⟩
end Go.Proofs.YtfeighajmkcjfaaGreatDoor.H
