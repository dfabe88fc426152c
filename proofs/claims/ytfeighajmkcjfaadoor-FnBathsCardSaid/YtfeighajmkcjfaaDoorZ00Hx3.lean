-- by wip/pack.py of this repo
import Derived.Test.YtfeighajmkcjfaaDoorZ00Hx0
import Derived.Test.YtfeighajmkcjfaaDoorZ00Hx2
import Derived.Test.YtfeighajmkcjfaaDoorZ00WApart
import Derived.Test.YtfeighajmkcjfaaDoorZ00WGuard
import Derived.Test.YtfeighajmkcjfaaDoorZ00WLast
import Derived.Test.YtfeighajmkcjfaaDoorZ00WMore
import Derived.Test.YtfeighajmkcjfaaDoorZ00WN
import Derived.Test.YtfeighajmkcjfaaDoorZ00WTab
import Derived.Test.YtfeighajmkcjfaaDoorZ00WWords
import Derived.Test.YtfeighajmkcjfaaDoorZ00Short
namespace Go.Proofs.YtfeighajmkcjfaaDoor.H
open Go.RowKit Go.Proofs.YtfeighajmkcjfaaDoorW.PrintWords Go.Proofs.YtfeighajmkcjfaaDoorW.PrintLast Go.Proofs.YtfeighajmkcjfaaDoorW.PrintMore
attribute [local go_sem] max2_int min2_int max_two min_two max_three min_three max_four min_four
set_option maxHeartbeats 8000000
set_option maxRecDepth 100000
set_option linter.unusedVariables false
set_option linter.unusedSimpArgs false
theorem impl_isGrams.tot : ∀ x : Int, impl_isGrams.f x = some ((fun x : Int => rng x 0 50000) x) := fun x => by unfold impl_isGrams.f; rw [impl_in.eq]; rfl
def areAll_impl_isGrams.f (l0 : List Int) : Option Bool := some (l0.all (fun x : Int => rng x 0 50000))
theorem areAll_impl_isGrams.calls (A0 : Option Addr) (c0 : Nat) (l0 : List Int) (r : Bool) (w : World) (Aa : Kd.C (Kd.int .i64) w A0 l0.length l0) (Ac : l0.length ≤ c0) (h : areAll_impl_isGrams.f l0 = some r) :
  Calls Tryd.prog 30 #[.slice A0 l0.length c0, .func (.func 29) #[] #[]] w fun e w' => e = .returned (.bool r) ∧ Below w.heap.size w w' := by
 have Ab := Option.some.inj h; subst Ab
 exact areAll_int (fun x : Int => rng x 0 50000) 29 #[] A0 c0 l0 w (enters_of Tryd.func29 Z37 rfl) Aa (fun W x _ => (impl_isGrams.calls x _ W (impl_isGrams.tot x)).mono fun e w' ⟨he, hd⟩ => ⟨he, by first | exact hd | exact hd.below⟩)
def impl_IsBath.f (k : Nat) (l0 : List (S43)) (a1_0 : Int) (a1_1 : Int) (a1_2 : Int) (l1_3 : List Int) : Option (Bool) := (impl_IsRecipe.f k l0).bind fun t273 => (if t273 = true then ((impl_in.f a1_0 1 500).bind fun t274 => (if t274 = true then ((impl_in.f a1_1 0 100).bind fun t275 => (if t275 = true then ((impl_isGrams.f a1_2).bind fun t276 => (if t276 = true then (if (l1_3.length : Int) = (l0.length : Int) then ((areAll_impl_isGrams.f l1_3).bind fun t277 => (some t277)) else (some false)) else (some false))) else (some false))) else (some false))) else (some false))
theorem impl_IsBath.calls (k : Nat) (A0 : Option Addr) (c0 : Nat) (l0 : List (S43)) (Ag : Int) (Af : Int) (Ae : Int) (Aj : Option Addr) (Ak : Nat) (Ab : List Int) (r : Bool) (w : World) (Cn : Kd.C k43 w A0 l0.length l0) (Co : l0.length ≤ c0) (Aq : Kd.C (Kd.int .i64) w Aj Ab.length Ab) (Ar : Ab.length ≤ Ak) (h : impl_IsBath.f k l0 Ag Af Ae Ab = some r) :
  Calls Tryd.prog 11 #[.slice A0 l0.length c0, .agg #[.int .i64 Ag, .int .i64 Af, .int .i64 Ae, .slice Aj Ab.length Ak]] w fun e w' => e = .returned (.bool r) ∧ Below w.heap.size w w' := by
 have hu27 := Tryd.underlying27; have Au := Aside0.mk Cn; have Av := Aside0.mk Co; clear Cn Co; have Aw := Aside0.mk Aq; have Ax := Aside0.mk Ar; clear Aq Ar; have HB := aM (Below.refl w.heap.size w); have H : ((impl_IsRecipe.f k l0).bind fun Ap => (if Ap = true then ((impl_in.f Ag 1 500).bind fun Al => (if Al = true then ((impl_in.f Af 0 100).bind fun Ai => (if Ai = true then ((impl_isGrams.f Ae).bind fun Ah => (if Ah = true then (if (Ab.length : Int) = (l0.length : Int) then ((areAll_impl_isGrams.f Ab).bind fun Ad => (some Ad)) else (some false)) else (some false))) else (some false))) else (some false))) else (some false))) = some r := h; clear h; replace H := Option.bind_eq_some_iff.mp H; obtain ⟨Ap, Cp, H⟩ := H; replace H : (if Ap = true then ((impl_in.f Ag 1 500).bind fun Al => (if Al = true then ((impl_in.f Af 0 100).bind fun Ai => (if Ai = true then ((impl_isGrams.f Ae).bind fun Ah => (if Ah = true then (if (Ab.length : Int) = (l0.length : Int) then ((areAll_impl_isGrams.f Ab).bind fun Ad => (some Ad)) else (some false)) else (some false))) else (some false))) else (some false))) else (some false)) = some r := H; have A3 := Aside0.mk Cp; clear Cp
 by_cases c4 : Ap = true
 ·subst c4
  have H1 : ((impl_in.f Ag 1 500).bind fun Al => (if Al = true then ((impl_in.f Af 0 100).bind fun Ai => (if Ai = true then ((impl_isGrams.f Ae).bind fun Ah => (if Ah = true then (if (Ab.length : Int) = (l0.length : Int) then ((areAll_impl_isGrams.f Ab).bind fun Ad => (some Ad)) else (some false)) else (some false))) else (some false))) else (some false))) = some r := by rw [if_pos rfl] at H; exact H
  clear H; have H := H1; clear H1; replace H := Option.bind_eq_some_iff.mp H; obtain ⟨Al, Cq, H⟩ := H; replace H : (if Al = true then ((impl_in.f Af 0 100).bind fun Ai => (if Ai = true then ((impl_isGrams.f Ae).bind fun Ah => (if Ah = true then (if (Ab.length : Int) = (l0.length : Int) then ((areAll_impl_isGrams.f Ab).bind fun Ad => (some Ad)) else (some false)) else (some false))) else (some false))) else (some false)) = some r := H; have A5 := Aside0.mk Cq; clear Cq
  by_cases c6 : Al = true
  ·subst c6
   have H1 : ((impl_in.f Af 0 100).bind fun Ai => (if Ai = true then ((impl_isGrams.f Ae).bind fun Ah => (if Ah = true then (if (Ab.length : Int) = (l0.length : Int) then ((areAll_impl_isGrams.f Ab).bind fun Ad => (some Ad)) else (some false)) else (some false))) else (some false))) = some r := by rw [if_pos rfl] at H; exact H
   clear H; have H := H1; clear H1; replace H := Option.bind_eq_some_iff.mp H; obtain ⟨Ai, Cr, H⟩ := H; replace H : (if Ai = true then ((impl_isGrams.f Ae).bind fun Ah => (if Ah = true then (if (Ab.length : Int) = (l0.length : Int) then ((areAll_impl_isGrams.f Ab).bind fun Ad => (some Ad)) else (some false)) else (some false))) else (some false)) = some r := H; have A7 := Aside0.mk Cr; clear Cr
   by_cases c8 : Ai = true
   ·subst c8
    have H1 : ((impl_isGrams.f Ae).bind fun Ah => (if Ah = true then (if (Ab.length : Int) = (l0.length : Int) then ((areAll_impl_isGrams.f Ab).bind fun Ad => (some Ad)) else (some false)) else (some false))) = some r := by rw [if_pos rfl] at H; exact H
    clear H; have H := H1; clear H1; replace H := Option.bind_eq_some_iff.mp H; obtain ⟨Ah, Cs, H⟩ := H; replace H : (if Ah = true then (if (Ab.length : Int) = (l0.length : Int) then ((areAll_impl_isGrams.f Ab).bind fun Ad => (some Ad)) else (some false)) else (some false)) = some r := H; have A9 := Aside0.mk Cs; clear Cs
    by_cases Az : Ah = true
    ·subst Az
     have H1 : (if (Ab.length : Int) = (l0.length : Int) then ((areAll_impl_isGrams.f Ab).bind fun Ad => (some Ad)) else (some false)) = some r := by rw [if_pos rfl] at H; exact H
     clear H; have H := H1; clear H1
     by_cases Ao : (Ab.length : Int) = (l0.length : Int)
     ·rw [if_pos Ao] at H
      have c11b0 : ((Ab.length : Int) == (l0.length : Int)) = true := beq_iff_eq.mpr Ao; have c11b1 : ((Ab.length : Int) != (l0.length : Int)) = false := bne_eq_false_iff_eq.mpr Ao
      have c11b2 : (Ab.length == l0.length) = true := by first | simpa using Ao | (simp at Ao ⊢; omega)
      clear Ao; replace H := Option.bind_eq_some_iff.mp H; obtain ⟨Ad, Ay, H⟩ := H; replace H : (some Ad) = some r := H; have Ct := Aside0.mk Ay; clear Ay; obtain rfl := Option.some.inj H
      go_enter Tryd.func11, Tryd.ntmps11
      go_wp2_with (first | ((with_reducible refine gate_dst (N := 3) rfl ?_); (try (refine gate_guard (by rfl) ?_; dsimp only)); refine bxE 3 #[.int .i64 Ag, .int .i64 Af, .int .i64 Ae, .slice Aj Ab.length Ak] 27 ?_; intro Am hg Cu hbox hb; have Aa := aM (hbox); have An := gwS hg Z0; have Ac := gwS hg Z0; replace HB := hbS Z0 hb; clear hb hbox hg) | ((with_reducible refine gate_callee (f := 27) rfl ?_); refine glE (some 6) Tryd.func27 #[.slice A0 l0.length c0] ?_; (with_reducible refine (impl_IsRecipe.calls k _ _ l0 true _ ?side1 ?side2 A3.out).mono ?_); (case side1 => exact Z30); (case side2 => exact Av.out); rintro e Cv ⟨rfl, hb⟩; refine ⟨_, rfl, ?_⟩; replace Aa := bkB Aa hb; replace HB := hbS Z21 hb; (try clear hb); obtain ⟨Ba, Bb, Bc, Bd⟩ := bz4 Aa; obtain ⟨Bf, Bg, Bh, Bi⟩ := fz4 Aa) | (go_at_call 28; (with_reducible refine (impl_in.calls Ag 1 500 true _ A5.out).mono ?_); rintro e w' ⟨rfl, ⟨nd, rfl⟩⟩) | (go_at_call 28; (with_reducible refine (impl_in.calls Af 0 100 true _ A7.out).mono ?_); rintro e w' ⟨rfl, ⟨nd, rfl⟩⟩) | (go_at_call 29; (with_reducible refine (impl_isGrams.calls Ae true _ A9.out).mono ?_); rintro e w' ⟨rfl, ⟨nd, rfl⟩⟩) | (go_at_call 30; (with_reducible refine (areAll_impl_isGrams.calls _ _ Ab Ad _ ?side1 ?side2 Ct.out).mono ?_); (case side1 => repeat (first | exact (Kd.C_below Aw.out Z21) | (with_reducible refine Kd.C_alloc ?_ _) | (with_reducible refine Kd.C_drewN ?_ _) | (with_reducible refine Kd.C_drew ?_))); (case side2 => exact Ax.out); rintro e Cw ⟨rfl, hb⟩; replace Aa := bkB Aa hb; replace HB := hbS Z21 hb; (try clear hb)))
      go_ret
      exact ⟨Z6, Z21⟩
     ·rw [if_neg Ao] at H
      have c11b0 : ((Ab.length : Int) == (l0.length : Int)) = false := beq_eq_false_iff_ne.mpr Ao; have c11b1 : ((Ab.length : Int) != (l0.length : Int)) = true := bne_iff_ne.mpr Ao
      have c11b2 : (Ab.length == l0.length) = false := by first | simpa using Ao | (simp at Ao ⊢; omega)
      obtain rfl := Option.some.inj H
      go_enter Tryd.func11, Tryd.ntmps11
      go_wp2_with (first | ((with_reducible refine gate_dst (N := 3) rfl ?_); (try (refine gate_guard (by rfl) ?_; dsimp only)); refine bxE 3 #[.int .i64 Ag, .int .i64 Af, .int .i64 Ae, .slice Aj Ab.length Ak] 27 ?_; intro Am hg Cx hbox hb; have Aa := aM (hbox); have An := gwS hg Z0; have Ac := gwS hg Z0; replace HB := hbS Z0 hb; clear hb hbox hg) | ((with_reducible refine gate_callee (f := 27) rfl ?_); refine glE (some 6) Tryd.func27 #[.slice A0 l0.length c0] ?_; (with_reducible refine (impl_IsRecipe.calls k _ _ l0 true _ ?side1 ?side2 A3.out).mono ?_); (case side1 => exact Z30); (case side2 => exact Av.out); rintro e Cy ⟨rfl, hb⟩; refine ⟨_, rfl, ?_⟩; replace Aa := bkB Aa hb; replace HB := hbS Z21 hb; (try clear hb); obtain ⟨Bj, Bk, Bl, Bm⟩ := bz4 Aa; obtain ⟨Bn, Bo, Bp, Bq⟩ := fz4 Aa) | (go_at_call 28; (with_reducible refine (impl_in.calls Ag 1 500 true _ A5.out).mono ?_); rintro e w' ⟨rfl, ⟨nd, rfl⟩⟩) | (go_at_call 28; (with_reducible refine (impl_in.calls Af 0 100 true _ A7.out).mono ?_); rintro e w' ⟨rfl, ⟨nd, rfl⟩⟩) | (go_at_call 29; (with_reducible refine (impl_isGrams.calls Ae true _ A9.out).mono ?_); rintro e w' ⟨rfl, ⟨nd, rfl⟩⟩))
      go_ret
      exact ⟨Z6, Z21⟩
    ·replace Az := Bool.eq_false_iff.mpr Az
     subst Az
     have H1 : (some false) = some r := by rw [if_neg (show ¬ (false = true) by decide)] at H; exact H
     clear H; have H := H1; clear H1; obtain rfl := Option.some.inj H
     go_enter Tryd.func11, Tryd.ntmps11
     go_wp2_with (first | ((with_reducible refine gate_dst (N := 3) rfl ?_); (try (refine gate_guard (by rfl) ?_; dsimp only)); refine bxE 3 #[.int .i64 Ag, .int .i64 Af, .int .i64 Ae, .slice Aj Ab.length Ak] 27 ?_; intro Am hg Cz hbox hb; have Aa := aM (hbox); have An := gwS hg Z0; have Ac := gwS hg Z0; replace HB := hbS Z0 hb; clear hb hbox hg) | ((with_reducible refine gate_callee (f := 27) rfl ?_); refine glE (some 6) Tryd.func27 #[.slice A0 l0.length c0] ?_; (with_reducible refine (impl_IsRecipe.calls k _ _ l0 true _ ?side1 ?side2 A3.out).mono ?_); (case side1 => exact Z30); (case side2 => exact Av.out); rintro e C0 ⟨rfl, hb⟩; refine ⟨_, rfl, ?_⟩; replace Aa := bkB Aa hb; replace HB := hbS Z21 hb; (try clear hb); obtain ⟨Br, Bs, Bt, Bu⟩ := bz4 Aa; obtain ⟨Bv, Bw, Bx, Bz⟩ := fz4 Aa) | (go_at_call 28; (with_reducible refine (impl_in.calls Ag 1 500 true _ A5.out).mono ?_); rintro e w' ⟨rfl, ⟨nd, rfl⟩⟩) | (go_at_call 28; (with_reducible refine (impl_in.calls Af 0 100 true _ A7.out).mono ?_); rintro e w' ⟨rfl, ⟨nd, rfl⟩⟩) | (go_at_call 29; (with_reducible refine (impl_isGrams.calls Ae false _ A9.out).mono ?_); rintro e w' ⟨rfl, ⟨nd, rfl⟩⟩))
     go_ret
     exact ⟨Z6, Z21⟩
   ·replace c8 := Bool.eq_false_iff.mpr c8
    subst c8
    have H1 : (some false) = some r := by rw [if_neg (show ¬ (false = true) by decide)] at H; exact H
    clear H; have H := H1; clear H1; obtain rfl := Option.some.inj H
    go_enter Tryd.func11, Tryd.ntmps11
    go_wp2_with (first | ((with_reducible refine gate_dst (N := 3) rfl ?_); (try (refine gate_guard (by rfl) ?_; dsimp only)); refine bxE 3 #[.int .i64 Ag, .int .i64 Af, .int .i64 Ae, .slice Aj Ab.length Ak] 27 ?_; intro Am hg C1 hbox hb; have Aa := aM (hbox); have An := gwS hg Z0; have Ac := gwS hg Z0; replace HB := hbS Z0 hb; clear hb hbox hg) | ((with_reducible refine gate_callee (f := 27) rfl ?_); refine glE (some 6) Tryd.func27 #[.slice A0 l0.length c0] ?_; (with_reducible refine (impl_IsRecipe.calls k _ _ l0 true _ ?side1 ?side2 A3.out).mono ?_); (case side1 => exact Z30); (case side2 => exact Av.out); rintro e C2 ⟨rfl, hb⟩; refine ⟨_, rfl, ?_⟩; replace Aa := bkB Aa hb; replace HB := hbS Z21 hb; (try clear hb); obtain ⟨B0, B2, B6, Ca⟩ := bz4 Aa; obtain ⟨Cb, Cc, Cd, Ce⟩ := fz4 Aa) | (go_at_call 28; (with_reducible refine (impl_in.calls Ag 1 500 true _ A5.out).mono ?_); rintro e w' ⟨rfl, ⟨nd, rfl⟩⟩) | (go_at_call 28; (with_reducible refine (impl_in.calls Af 0 100 false _ A7.out).mono ?_); rintro e w' ⟨rfl, ⟨nd, rfl⟩⟩))
    go_ret
    exact ⟨Z6, Z21⟩
  ·replace c6 := Bool.eq_false_iff.mpr c6
   subst c6
   have H1 : (some false) = some r := by rw [if_neg (show ¬ (false = true) by decide)] at H; exact H
   clear H; have H := H1; clear H1; obtain rfl := Option.some.inj H
   go_enter Tryd.func11, Tryd.ntmps11
   go_wp2_with (first | ((with_reducible refine gate_dst (N := 3) rfl ?_); (try (refine gate_guard (by rfl) ?_; dsimp only)); refine bxE 3 #[.int .i64 Ag, .int .i64 Af, .int .i64 Ae, .slice Aj Ab.length Ak] 27 ?_; intro Am hg C3 hbox hb; have Aa := aM (hbox); have An := gwS hg Z0; have Ac := gwS hg Z0; replace HB := hbS Z0 hb; clear hb hbox hg) | ((with_reducible refine gate_callee (f := 27) rfl ?_); refine glE (some 6) Tryd.func27 #[.slice A0 l0.length c0] ?_; (with_reducible refine (impl_IsRecipe.calls k _ _ l0 true _ ?side1 ?side2 A3.out).mono ?_); (case side1 => exact Z30); (case side2 => exact Av.out); rintro e C4 ⟨rfl, hb⟩; refine ⟨_, rfl, ?_⟩; replace Aa := bkB Aa hb; replace HB := hbS Z21 hb; (try clear hb); obtain ⟨Cf, Cg, Ch, Ci⟩ := bz4 Aa; obtain ⟨Cj, Ck, Cl, Cm⟩ := fz4 Aa) | (go_at_call 28; (with_reducible refine (impl_in.calls Ag 1 500 false _ A5.out).mono ?_); rintro e w' ⟨rfl, ⟨nd, rfl⟩⟩))
   go_ret
   exact ⟨Z6, Z21⟩
 ·replace c4 := Bool.eq_false_iff.mpr c4
  subst c4
  have H1 : (some false) = some r := by rw [if_neg (show ¬ (false = true) by decide)] at H; exact H
  clear H; have H := H1; clear H1; obtain rfl := Option.some.inj H
  go_enter Tryd.func11, Tryd.ntmps11
  go_wp2_with (first | ((with_reducible refine gate_dst (N := 3) rfl ?_); (try (refine gate_guard (by rfl) ?_; dsimp only)); refine bxE 3 #[.int .i64 Ag, .int .i64 Af, .int .i64 Ae, .slice Aj Ab.length Ak] 27 ?_; intro Am hg C5 hbox hb; have Aa := aM (hbox); have An := gwS hg Z0; have Ac := gwS hg Z0; replace HB := hbS Z0 hb; clear hb hbox hg) | ((with_reducible refine gate_callee (f := 27) rfl ?_); refine glE (some 6) Tryd.func27 #[.slice A0 l0.length c0] ?_; (with_reducible refine (impl_IsRecipe.calls k _ _ l0 false _ ?side1 ?side2 A3.out).mono ?_); (case side1 => exact Z30); (case side2 => exact Av.out); rintro e C6 ⟨rfl, hb⟩; refine ⟨_, rfl, ?_⟩; replace Aa := bkB Aa hb; replace HB := hbS Z21 hb; (try clear hb)))
  go_ret
  exact ⟨Z6, Z21⟩
def impl_Bath_isWarm.f (a0_0 : Int) (a0_1 : Int) (a0_2 : Int) (l0_3 : List Int) : Option (Bool) := (impl_in.f a0_1 60 95).bind fun t279 => (some t279)
theorem impl_Bath_isWarm.calls (Ag : Int) (Aa : Int) (Ah : Int) (Ai : Option Addr) (Aj : Nat) (Ab : List Int) (r : Bool) (w : World) (Ad : Kd.C (Kd.int .i64) w Ai Ab.length Ab) (Ae : Ab.length ≤ Aj) (h : impl_Bath_isWarm.f Ag Aa Ah Ab = some r) :
  Calls Tryd.prog 31 #[.agg #[.int .i64 Ag, .int .i64 Aa, .int .i64 Ah, .slice Ai Ab.length Aj]] w fun e w' => e = .returned (.bool r) ∧ Below w.heap.size w w' := by
 have hu27 := Tryd.underlying27; have Av := Aside0.mk Ad; have Aw := Aside0.mk Ae; clear Ad Ae; have HB := aM (Below.refl w.heap.size w); have H : ((impl_in.f Aa 60 95).bind fun Ac => (some Ac)) = some r := h; clear h; replace H := Option.bind_eq_some_iff.mp H; obtain ⟨Ac, Ax, H⟩ := H; replace H : (some Ac) = some r := H; have A2 := Aside0.mk Ax; clear Ax; obtain rfl := Option.some.inj H
 go_enter Tryd.func31, Tryd.ntmps31
 go_wp2_with (first | ((with_reducible refine gate_dst (N := 1) rfl ?_); refine bxE 1 #[.int .i64 Ag, .int .i64 Aa, .int .i64 Ah, .slice Ai Ab.length Aj] 27 ?_; intro Ay hg w3 hbox hb; have Af := aM (hbox); have Az := gwS hg Z0; have Ak := gwS hg Z0; replace HB := hbS Z0 hb; clear hb hbox hg; obtain ⟨Al, Am, An, Ao⟩ := bz4 Af; obtain ⟨Ap, Aq, Ar, Au⟩ := fz4 Af) | ((with_reducible refine gate_callee (f := 28) rfl ?_); refine glE (some 5) Tryd.func28 #[.int .i64 Aa, .int .i64 60, .int .i64 95] ?_; (with_reducible refine (impl_in.calls Aa 60 95 Ac _ A2.out).mono ?_); rintro e w' ⟨rfl, ⟨nd, rfl⟩⟩; refine ⟨_, rfl, ?_⟩))
 go_ret
 exact ⟨Z6, Z67⟩
def impl_Bath_mostYarn.l0 : Nat → Int → List (S43) → Int → Int → Int → Int → Int → List Int → Option (Int)
 | 0, _, _, _, _, _, _, _, _ => none
 | k + 1, x5, x13, x14, x15, x281000, x281001, x281002, x281003 => if x15 < x14 then (if 0 ≤ x15 then (if x15 < (x13.length : Int) then (if x15 < (x281003.length : Int) then (if ((rd_T43 x13 x15).f1) = 0 then (none) else (impl_Bath_mostYarn.l0 k (mn x5 (wrap64 (Int.tdiv (wrap64 (1000 * (rd x281003 x15))) ((rd_T43 x13 x15).f1)))) x13 x14 (wrap64 (x15 + 1)) x281000 x281001 x281002 x281003)) else (none)) else (none)) else (none)) else (some x5)
def impl_Bath_mostYarn.f (k : Nat) (a0_0 : Int) (a0_1 : Int) (a0_2 : Int) (l0_3 : List Int) (l1 : List (S43)) : Option (Int) := impl_Bath_mostYarn.l0 k (mn 50000 (wrap64 ((wrap64 (Int.tdiv a0_0 20)) * 1000))) l1 (l1.length : Int) 0 a0_0 a0_1 a0_2 l0_3
theorem impl_Bath_mostYarn.calls (k : Nat) (Ai : Int) (An : Int) (Ao : Int) (Bp : Option Addr) (Bq : Nat) (Ag : List Int) (A1 : Option Addr) (c1 : Nat) (l1 : List (S43)) (r : Int) (w : World) (Bv : Kd.C (Kd.int .i64) w Bp Ag.length Ag) (Bw : Ag.length ≤ Bq) (Cc : Kd.C k43 w A1 l1.length l1) (Cd : l1.length ≤ c1) (h : impl_Bath_mostYarn.f k Ai An Ao Ag l1 = some r) :
  Calls Tryd.prog 32 #[.agg #[.int .i64 Ai, .int .i64 An, .int .i64 Ao, .slice Bp Ag.length Bq], .slice A1 l1.length c1] w fun e w' => e = .returned (.int .i64 r) ∧ Below w.heap.size w w' := by
 have hu27 := Tryd.underlying27; have hu43 := Tryd.underlying43; have Bs := Aside0.mk Bv; have Ce := Aside0.mk Bw; clear Bv Bw; have Cf := Aside0.mk Cc; have Ch := Aside0.mk Cd; clear Cc Cd; have HB := aM (Below.refl w.heap.size w); have H : (impl_Bath_mostYarn.l0 k (mn 50000 (wrap64 ((wrap64 (Int.tdiv Ai 20)) * 1000))) l1 (l1.length : Int) 0 Ai An Ao Ag) = some r := h; clear h; obtain ⟨ji3, hji3⟩ : ∃ j_ : Int, (mn 50000 (wrap64 ((wrap64 (Int.tdiv Ai 20)) * 1000))) = j_ := ⟨_, rfl⟩
 replace H : (impl_Bath_mostYarn.l0 k ji3 l1 (l1.length : Int) 0 Ai An Ao Ag) = some r := by first | (rw [hji3] at H; exact H) | (simp only [hji3] at H ⊢; exact H)
 (try (have hji3h : ji3 ≤ 50000 := by (rw [← hji3]; unfold mn; (repeat' split) <;> omega)))
 (try (have hji3g : ji3 ≤ 64 := by omega))
 have hji3_ : (if (wrap64 ((wrap64 (Int.tdiv Ai 20)) * 1000)) < 50000 then (wrap64 ((wrap64 (Int.tdiv Ai 20)) * 1000)) else 50000) = ji3 := hji3; have H' := Aside0.mk H; clear H
 go_enter Tryd.func32, Tryd.ntmps32
 go_wp2_with (first | ((with_reducible refine gate_dst (N := 2) rfl ?_); refine bxE 2 #[.int .i64 Ai, .int .i64 An, .int .i64 Ao, .slice Bp Ag.length Bq] 27 ?_; intro Bt hg w4 hbox hb; have Ac := aM (hbox); have Bx := gwS hg Z0; have Af := gwS hg Z0; replace HB := hbS Z0 hb; clear hb hbox hg; obtain ⟨Ar, Au, Av, Aw⟩ := bz4 Ac; obtain ⟨Ax, Ay, Az, Ba⟩ := fz4 Ac))
 repeat (go_quiet (first | ((with_reducible refine gate_dst (N := 2) rfl ?_); refine bxE 2 #[.int .i64 Ai, .int .i64 An, .int .i64 Ao, .slice Bp Ag.length Bq] 27 ?_; intro Bt hg w4 hbox hb; have Ac := aM (hbox); have Bx := gwS hg Z0; have Af := gwS hg Z0; replace HB := hbS Z0 hb; clear hb hbox hg; obtain ⟨Ar, Au, Av, Aw⟩ := bz4 Ac; obtain ⟨Ax, Ay, Az, Ba⟩ := fz4 Ac)); try go_wp2_with (first | ((with_reducible refine gate_dst (N := 2) rfl ?_); refine bxE 2 #[.int .i64 Ai, .int .i64 An, .int .i64 Ao, .slice Bp Ag.length Bq] 27 ?_; intro Bt hg w4 hbox hb; have Ac := aM (hbox); have Bx := gwS hg Z0; have Af := gwS hg Z0; replace HB := hbS Z0 hb; clear hb hbox hg; obtain ⟨Ar, Au, Av, Aw⟩ := bz4 Ac; obtain ⟨Ax, Ay, Az, Ba⟩ := fz4 Ac)))
 go_loopg [5, 15] k (fun kq v5 Cg w' => ∃ (Br : Int) (Ab : Int), v5 = .int .i64 Br ∧ Cg = .int .i64 Ab ∧ Aside0 (impl_Bath_mostYarn.l0 kq Br l1 (l1.length : Int) Ab Ai An Ao Ag = some r) ∧ Aside0 (kq ≤ k) ∧ Aside0 (w'.heap[Bt]? = some (.cells #[.int .i64 Ai, .int .i64 An, .int .i64 Ao, (.slice Bp Ag.length Bq)] 27 (0, 0))) ∧ Aside0 (Below w.heap.size w w'))
 case atStart => exact ⟨(ji3), (0), (by first | rfl | (simp; done) | (simp only [← hji3] <;> (first | rfl | simp)) | (simp [*]; done)), Z20, H', ⟨Nat.le_refl _⟩, ⟨Z64⟩, ⟨Z14⟩⟩
 case round =>
  clear H'; (try clear c1); (try clear p2); (try clear c3); (try clear Ar); (try clear Au); (try clear Av); (try clear Aw); (try clear Ax); (try clear Ay); (try clear Az); (try clear Ba); obtain ⟨Br, Ab, rfl, rfl, HA, HK1, Ac, HB⟩ := hrel; cases gk with
  | zero => exact absurd HA.out (by simp [impl_Bath_mostYarn.l0])
  | succ k1 =>
   have H := HA.out; clear HA
   simp only [impl_Bath_mostYarn.l0] at H
   by_cases c6 : Ab < (l1.length : Int)
   ·rw [if_pos c6] at H
    have c6b0 : decide (Ab < (l1.length : Int)) = true := decide_eq_true c6; clear c6
    by_cases c7 : 0 ≤ Ab
    ·rw [if_pos c7] at H
     have c7b0 : decide (0 ≤ Ab) = true := decide_eq_true c7; clear c7
     by_cases c8 : Ab < (l1.length : Int)
     ·rw [if_pos c8] at H
      have c8b0 : decide (Ab < (l1.length : Int)) = true := decide_eq_true c8; clear c8
      by_cases c9 : Ab < (Ag.length : Int)
      ·rw [if_pos c9] at H
       have c9b0 : decide (Ab < (Ag.length : Int)) = true := decide_eq_true c9; clear c9
       by_cases Cb : ((rd_T43 l1 Ab).f1) = 0
       ·rw [if_pos Cb] at H
        exact absurd H (by simp)
       ·rw [if_neg Cb] at H
        have c10b0 : (((rd_T43 l1 Ab).f1) == 0) = false := beq_eq_false_iff_ne.mpr Cb; have c10b1 : (((rd_T43 l1 Ab).f1) != 0) = true := bne_iff_ne.mpr Cb; obtain ⟨ji11, hji11⟩ : ∃ j_ : Int, (mn Br (wrap64 (Int.tdiv (wrap64 (1000 * (rd Ag Ab))) ((rd_T43 l1 Ab).f1)))) = j_ := ⟨_, rfl⟩
        replace H : (impl_Bath_mostYarn.l0 k1 ji11 l1 (l1.length : Int) (wrap64 (Ab + 1)) Ai An Ao Ag) = some r := by first | (rw [hji11] at H; exact H) | (simp only [hji11] at H ⊢; exact H)
        have hji11_ : (if (wrap64 (Int.tdiv (wrap64 (1000 * (rd Ag Ab))) ((rd_T43 l1 Ab).f1))) < Br then (wrap64 (Int.tdiv (wrap64 (1000 * (rd Ag Ab))) ((rd_T43 l1 Ab).f1))) else Br) = ji11 := hji11; have H' := Aside0.mk H; clear H; have B2 : 0 ≤ (Ab : Int) := of_decide_eq_true Z8; have B6 : Ab < (l1.length : Int) := of_decide_eq_true Z8; obtain ⟨ad281, e281, Ap, Aq⟩ := at_T43 Cf.out Ab B2 B6; cases e281; replace Ap := (HB.out.cell (World.block_lt_of_cell? w _ Ap)).trans Ap; replace Aq := (HB.out.cell (World.block_lt_of_cell? w _ Aq)).trans Aq; replace B2 := eq_true B2; replace B6 := eq_true B6
        go_wp2_with (first | ((with_reducible refine gate_dst (N := 7) rfl ?_); refine bxE 7 #[.string (⟨#[]⟩ : ByteArray), .int .i64 0] 43 ?_; intro Ad hg Ca hbox hb; have Aj := aM (hbox); have Ak := gwS hg Z14; have Bu := gwS hg Z14; replace HB := hbS Z14 hb; have Ae := nbL hg Ac; have Ah := nbG hg Ac; replace Ac := bkB Ac hb; clear hb hbox hg; have Bz := Ah.out; have B0 := Ae.out; obtain ⟨Bb, Bc⟩ := bz2 Aj; obtain ⟨Bd, Bf⟩ := fz2 Aj; obtain ⟨Bg, Bh, Bi, Bj⟩ := bz4 Ac; obtain ⟨Bk, Bl, Bm, Bn⟩ := fz4 Ac; have Al : 0 ≤ (Ab : Int) := of_decide_eq_true Z8; have Am : Ab < (Ag.length : Int) := of_decide_eq_true Z8; obtain ⟨ad283, e283, Aa⟩ := Kd.at_int Bs.out Ab Al Am; cases e283; have hn283_0 : ad283.block ≠ Ad := Nat.ne_of_lt (Nat.lt_of_lt_of_le Z99 Ak.out); have hn283_1 : ad283.block ≠ Ad := Nat.ne_of_lt (Nat.lt_of_lt_of_le Z99 Ak.out); replace Aa := (HB.out.cell (World.block_lt_of_cell? w _ Aa)).trans Aa; replace Aa := (cell_far (p := ⟨Ad, 0, none⟩) Z114 (.string ((rd_T43 l1 Ab).f0))).trans Aa; replace Aa := (cell_far (p := ⟨Ad, 1, none⟩) Z115 (.int .i64 ((rd_T43 l1 Ab).f1))).trans Aa; (try have Bo := fun (n_ : Nat) => (show ((((Ca.drewN n_).setCell ⟨Ad, 0, none⟩ (.string ((rd_T43 l1 Ab).f0))).setCell ⟨Ad, 1, none⟩ (.int .i64 ((rd_T43 l1 Ab).f1)))).cell? _ = some _ from Aa)); clear hn283_0; clear hn283_1; replace Al := eq_true Al; replace Am := eq_true Am))
        repeat (go_quiet (first | ((with_reducible refine gate_dst (N := 7) rfl ?_); refine bxE 7 #[.string (⟨#[]⟩ : ByteArray), .int .i64 0] 43 ?_; intro Ad hg Ca hbox hb; have Aj := aM (hbox); have Ak := gwS hg Z14; have Bu := gwS hg Z14; replace HB := hbS Z14 hb; have Ae := nbL hg Ac; have Ah := nbG hg Ac; replace Ac := bkB Ac hb; clear hb hbox hg; have Bz := Ah.out; have B0 := Ae.out; obtain ⟨Bb, Bc⟩ := bz2 Aj; obtain ⟨Bd, Bf⟩ := fz2 Aj; obtain ⟨Bg, Bh, Bi, Bj⟩ := bz4 Ac; obtain ⟨Bk, Bl, Bm, Bn⟩ := fz4 Ac; have Al : 0 ≤ (Ab : Int) := of_decide_eq_true Z8; have Am : Ab < (Ag.length : Int) := of_decide_eq_true Z8; obtain ⟨ad283, e283, Aa⟩ := Kd.at_int Bs.out Ab Al Am; cases e283; have hn283_0 : ad283.block ≠ Ad := Nat.ne_of_lt (Nat.lt_of_lt_of_le Z99 Ak.out); have hn283_1 : ad283.block ≠ Ad := Nat.ne_of_lt (Nat.lt_of_lt_of_le Z99 Ak.out); replace Aa := (HB.out.cell (World.block_lt_of_cell? w _ Aa)).trans Aa; replace Aa := (cell_far (p := ⟨Ad, 0, none⟩) Z114 (.string ((rd_T43 l1 Ab).f0))).trans Aa; replace Aa := (cell_far (p := ⟨Ad, 1, none⟩) Z115 (.int .i64 ((rd_T43 l1 Ab).f1))).trans Aa; (try have Bo := fun (n_ : Nat) => (show ((((Ca.drewN n_).setCell ⟨Ad, 0, none⟩ (.string ((rd_T43 l1 Ab).f0))).setCell ⟨Ad, 1, none⟩ (.int .i64 ((rd_T43 l1 Ab).f1)))).cell? _ = some _ from Aa)); clear hn283_0; clear hn283_1; replace Al := eq_true Al; replace Am := eq_true Am)); try go_wp2_with (first | ((with_reducible refine gate_dst (N := 7) rfl ?_); refine bxE 7 #[.string (⟨#[]⟩ : ByteArray), .int .i64 0] 43 ?_; intro Ad hg Ca hbox hb; have Aj := aM (hbox); have Ak := gwS hg Z14; have Bu := gwS hg Z14; replace HB := hbS Z14 hb; have Ae := nbL hg Ac; have Ah := nbG hg Ac; replace Ac := bkB Ac hb; clear hb hbox hg; have Bz := Ah.out; have B0 := Ae.out; obtain ⟨Bb, Bc⟩ := bz2 Aj; obtain ⟨Bd, Bf⟩ := fz2 Aj; obtain ⟨Bg, Bh, Bi, Bj⟩ := bz4 Ac; obtain ⟨Bk, Bl, Bm, Bn⟩ := fz4 Ac; have Al : 0 ≤ (Ab : Int) := of_decide_eq_true Z8; have Am : Ab < (Ag.length : Int) := of_decide_eq_true Z8; obtain ⟨ad283, e283, Aa⟩ := Kd.at_int Bs.out Ab Al Am; cases e283; have hn283_0 : ad283.block ≠ Ad := Nat.ne_of_lt (Nat.lt_of_lt_of_le Z99 Ak.out); have hn283_1 : ad283.block ≠ Ad := Nat.ne_of_lt (Nat.lt_of_lt_of_le Z99 Ak.out); replace Aa := (HB.out.cell (World.block_lt_of_cell? w _ Aa)).trans Aa; replace Aa := (cell_far (p := ⟨Ad, 0, none⟩) Z114 (.string ((rd_T43 l1 Ab).f0))).trans Aa; replace Aa := (cell_far (p := ⟨Ad, 1, none⟩) Z115 (.int .i64 ((rd_T43 l1 Ab).f1))).trans Aa; (try have Bo := fun (n_ : Nat) => (show ((((Ca.drewN n_).setCell ⟨Ad, 0, none⟩ (.string ((rd_T43 l1 Ab).f0))).setCell ⟨Ad, 1, none⟩ (.int .i64 ((rd_T43 l1 Ab).f1)))).cell? _ = some _ from Aa)); clear hn283_0; clear hn283_1; replace Al := eq_true Al; replace Am := eq_true Am)))
        go_roundg k1
        case measure => have := HK1.out; omega
        case rel => exact ⟨(ji11), (wrap64 (Ab + 1)), (by first | rfl | (simp; done) | (simp only [← hji11] <;> (first | rfl | simp)) | (simp [*]; done)), Z20, H', ⟨Z135⟩, ⟨by (with_reducible repeat (first | refine blk_drewN ?_ _ | refine blk_drew ?_ | refine blk_alloc ?_ _)); refine blk_far ?_ Ae.out _; (with_reducible repeat (first | refine blk_drewN ?_ _ | refine blk_drew ?_ | refine blk_alloc ?_ _)); refine blk_far ?_ Ae.out _; (with_reducible repeat (first | refine blk_drewN ?_ _ | refine blk_drew ?_ | refine blk_alloc ?_ _)); exact Ac.out⟩, ⟨by repeat (first | (with_reducible first | exact HB.out | apply below_alloc | apply pw_below_drewN | apply below_drew1 | refine below_set ?_ Af.out | refine below_set ?_ Bu.out) | exact HB.out)⟩⟩
      ·rw [if_neg c9] at H
       exact absurd H (by simp)
     ·rw [if_neg c8] at H
      exact absurd H (by simp)
    ·rw [if_neg c7] at H
     exact absurd H (by simp)
   ·rw [if_neg c6] at H
    have c6b0 : decide (Ab < (l1.length : Int)) = false := decide_eq_false c6; clear c6; obtain rfl := Option.some.inj H
    go_wp2
    repeat (go_quiet (fail); try go_wp2)
    go_ret
    exact ⟨Z121, Z14⟩
def impl_Bath_isReady.f (k : Nat) (a0_0 : Int) (a0_1 : Int) (a0_2 : Int) (l0_3 : List Int) (l1 : List (S43)) : Option (Bool) := (impl_Bath_isWarm.f a0_0 a0_1 a0_2 l0_3).bind fun t285 => (if t285 = true then ((impl_Bath_mostYarn.f k a0_0 a0_1 a0_2 l0_3 l1).bind fun t286 => (some (decide (a0_2 ≤ t286)))) else (some false))
def impl_Bath_isReady.T1 : Bool × List (List Nat × List Nat) := (true, [([], []), ([0], [0]), ([1, 1], [1]), ([2], [2]), ([3, 2], [2, 3]), ([2], [2]), ([2], [2]), ([5, 6, 2, 2], [2, 5, 6]), ([4, 7, 2], [2, 4, 7]), ([2, 8], [2, 8]), ([9, 7, 0, 1, 2, 3, 4, 5, 6, 7, 8, 9], [9])])
def impl_Bath_isReady.B1 : List Nat := [0, 1, 3, 7, 15, 7, 7, 103, 255, 511, 1023]
theorem impl_Bath_isReady.tab1 : rtab .any (opsOf Tryd.f21 1) = impl_Bath_isReady.T1 := by kernel_rfl
theorem impl_Bath_isReady.bits1 : waitsOk impl_Bath_isReady.T1.2 impl_Bath_isReady.B1 = true := by kernel_rfl
theorem impl_Bath_isReady.calls (k : Nat) (Ad : Int) (Ae : Int) (Ab : Int) (Ah : Option Addr) (Ai : Nat) (Ac : List Int) (A1 : Option Addr) (c1 : Nat) (l1 : List (S43)) (r : Bool) (w : World) (An : Kd.C (Kd.int .i64) w Ah Ac.length Ac) (Ao : Ac.length ≤ Ai) (Aq : Kd.C k43 w A1 l1.length l1) (Ar : l1.length ≤ c1) (h : impl_Bath_isReady.f k Ad Ae Ab Ac l1 = some r) :
  Calls Tryd.prog 21 #[.agg #[.int .i64 Ad, .int .i64 Ae, .int .i64 Ab, .slice Ah Ac.length Ai], .slice A1 l1.length c1] w fun e w' => e = .returned (.bool r) ∧ Below w.heap.size w w' := by
 have hu27 := Tryd.underlying27; have Ak := Aside0.mk An; have Al := Aside0.mk Ao; clear An Ao; have Aw := Aside0.mk Aq; have Ax := Aside0.mk Ar; clear Aq Ar; have HB := aM (Below.refl w.heap.size w); have H : ((impl_Bath_isWarm.f Ad Ae Ab Ac).bind fun Am => (if Am = true then ((impl_Bath_mostYarn.f k Ad Ae Ab Ac l1).bind fun Aj => (some (decide (Ab ≤ Aj)))) else (some false))) = some r := h; clear h; replace H := Option.bind_eq_some_iff.mp H; obtain ⟨Am, Au, H⟩ := H; replace H : (if Am = true then ((impl_Bath_mostYarn.f k Ad Ae Ab Ac l1).bind fun Aj => (some (decide (Ab ≤ Aj)))) else (some false)) = some r := H; have A3 := Aside0.mk Au; clear Au
 by_cases c4 : Am = true
 ·subst c4
  have H1 : ((impl_Bath_mostYarn.f k Ad Ae Ab Ac l1).bind fun Aj => (some (decide (Ab ≤ Aj)))) = some r := by rw [if_pos rfl] at H; exact H
  clear H; have H := H1; clear H1; replace H := Option.bind_eq_some_iff.mp H; obtain ⟨Aj, Av, H⟩ := H; replace H : (some (decide (Ab ≤ Aj))) = some r := H; have A5 := Aside0.mk Av; clear Av; obtain rfl := Option.some.inj H
  go_enter Tryd.func21, Tryd.ntmps21
  try go_wp2_with (first | ((with_reducible refine gate_dst (N := 2) rfl ?_); refine bxE 2 #[.int .i64 Ad, .int .i64 Ae, .int .i64 Ab, .slice Ah Ac.length Ai] 27 ?_; intro Af hg w6 hbox hb; have Aa := aM (hbox); have Ap := gwS hg Z0; have Ag := gwS hg Z0; replace HB := hbS Z0 hb; clear hb hbox hg))
  replace Aa := aM (blk_drew Aa.out); replace HB := aM (below_drew1 HB.out); refine start_ (n := 11) (S := fun w' => w'.cell? ⟨Af, 0, none⟩ = some (.int .i64 Ad) ∧ w'.cell? ⟨Af, 1, none⟩ = some (.int .i64 Ae) ∧ w'.cell? ⟨Af, 2, none⟩ = some (.int .i64 Ab) ∧ w'.cell? ⟨Af, 3, none⟩ = some (.slice Ah Ac.length Ai)) (ds := []) #[false, false, false, false, false, false, false, false, false, false, false] Z37 rfl rfl ⟨(blk_cell Aa.out 0).trans rfl, (blk_cell Aa.out 1).trans rfl, (blk_cell Aa.out 2).trans rfl, (blk_cell Aa.out 3).trans rfl⟩ (fun hHeld => ?_); refine with_tabW impl_Bath_isReady.tab1 impl_Bath_isReady.bits1 (fun HT_ HW_ => ?_)
  generalize w6.drew = w7 at Aa HB hHeld ⊢
  refine taR 0 5 #[true, false, false, false, false, false, false, false, false, false, false] HT_ HW_ hHeld rfl rfl ?_; refine one_ (i := 1) (N := some 6) #[true, true, false, false, false, false, false, false, false, false, false] rfl rfl (one_of HT_.out Z37) (by decide) (fun K hK => ?_); refine goes_ Tryd.func31 Z37 rfl #[.agg #[.int .i64 Ad, .int .i64 Ae, .int .i64 Ab, .slice Ah Ac.length Ai]] (by rfl) rfl rfl Z31 ?_; (with_reducible refine (impl_Bath_isWarm.calls Ad Ae Ab _ _ Ac true _ ?side1 ?side2 A3.out).mono ?_); (case side1 => exact Z95); (case side2 => exact Al.out); rintro e w8 ⟨rfl, hb⟩; refine ⟨_, rfl, ?_⟩; replace Aa := bkB Aa hb; replace HB := hbS Z66 hb; (try clear hb); (try clear hb2); (try clear hk); (try clear hi); refine hK.out _ _ Z112 (fun hHeld => ?_); clear hK K; refine noR 6 ?_; refine puR 2 7 #[true, true, true, false, false, false, false, false, false, false, false] HT_ rfl rfl ?_; refine puR 3 8 #[true, true, true, true, false, false, false, false, false, false, false] HT_ rfl rfl ?_; refine puR 6 11 #[true, true, true, true, false, false, true, false, false, false, false] HT_ rfl rfl ?_; refine taR 4 9 #[true, true, true, true, true, false, true, false, false, false, false] HT_ HW_ hHeld rfl rfl ?_; refine taR 5 10 #[true, true, true, true, true, true, true, false, false, false, false] HT_ HW_ hHeld rfl rfl ?_; refine one_ (i := 7) (N := some 12) #[true, true, true, true, true, true, true, true, false, false, false] rfl rfl (one_of HT_.out Z37) (by decide) (fun K hK => ?_); refine goes_ Tryd.func32 Z37 rfl #[.agg #[.int .i64 Ad, .int .i64 Ae, .int .i64 Ab, .slice Ah Ac.length Ai], .slice A1 l1.length c1] (by rfl) rfl rfl Z31 ?_; (with_reducible refine (impl_Bath_mostYarn.calls k Ad Ae Ab _ _ Ac _ _ l1 Aj _ ?side1 ?side2 ?side3 ?side4 A5.out).mono ?_); (case side1 => exact Z95); (case side2 => exact Al.out); (case side3 => exact (by repeat (first | exact (Kd.C_below Aw.out HB.out) | (with_reducible refine Kd.C_alloc ?_ _) | (with_reducible refine Kd.C_drewN ?_ _) | (with_reducible refine Kd.C_drew ?_)))); (case side4 => exact Ax.out); rintro e w9 ⟨rfl, hb⟩; refine ⟨_, rfl, ?_⟩; replace Aa := bkB Aa hb; replace HB := hbS Z66 hb; (try clear hb); (try clear hb2); (try clear hk); (try clear hi); refine hK.out _ _ Z112 (fun hHeld => ?_); clear hK K; refine noR 12 ?_; refine puR 8 13 #[true, true, true, true, true, true, true, true, true, false, false] HT_ rfl rfl ?_; refine puR 9 14 #[true, true, true, true, true, true, true, true, true, true, false] HT_ rfl rfl ?_; refine puR 10 4 #[true, true, true, true, true, true, true, true, true, true, true] HT_ rfl rfl ?_; refine done_ (done_of HT_.out Z37) ?_
  try go_wp2
  go_ret
  exact ⟨Z6, Z66⟩
 ·replace c4 := Bool.eq_false_iff.mpr c4
  subst c4
  have H1 : (some false) = some r := by rw [if_neg (show ¬ (false = true) by decide)] at H; exact H
  clear H; have H := H1; clear H1; obtain rfl := Option.some.inj H
  go_enter Tryd.func21, Tryd.ntmps21
  try go_wp2_with (first | ((with_reducible refine gate_dst (N := 2) rfl ?_); refine bxE 2 #[.int .i64 Ad, .int .i64 Ae, .int .i64 Ab, .slice Ah Ac.length Ai] 27 ?_; intro Af hg Ay hbox hb; have Aa := aM (hbox); have Ap := gwS hg Z0; have Ag := gwS hg Z0; replace HB := hbS Z0 hb; clear hb hbox hg))
  replace Aa := aM (blk_drew Aa.out); replace HB := aM (below_drew1 HB.out); refine start_ (n := 11) (S := fun w' => w'.cell? ⟨Af, 0, none⟩ = some (.int .i64 Ad) ∧ w'.cell? ⟨Af, 1, none⟩ = some (.int .i64 Ae) ∧ w'.cell? ⟨Af, 2, none⟩ = some (.int .i64 Ab) ∧ w'.cell? ⟨Af, 3, none⟩ = some (.slice Ah Ac.length Ai)) (ds := []) #[false, false, false, false, false, false, false, false, false, false, false] Z37 rfl rfl ⟨(blk_cell Aa.out 0).trans rfl, (blk_cell Aa.out 1).trans rfl, (blk_cell Aa.out 2).trans rfl, (blk_cell Aa.out 3).trans rfl⟩ (fun hHeld => ?_); refine with_tabW impl_Bath_isReady.tab1 impl_Bath_isReady.bits1 (fun HT_ HW_ => ?_)
  generalize Ay.drew = Az at Aa HB hHeld ⊢
  refine taR 0 5 #[true, false, false, false, false, false, false, false, false, false, false] HT_ HW_ hHeld rfl rfl ?_; refine one_ (i := 1) (N := some 6) #[true, true, false, false, false, false, false, false, false, false, false] rfl rfl (one_of HT_.out Z37) (by decide) (fun K hK => ?_); refine goes_ Tryd.func31 Z37 rfl #[.agg #[.int .i64 Ad, .int .i64 Ae, .int .i64 Ab, .slice Ah Ac.length Ai]] (by rfl) rfl rfl Z31 ?_; (with_reducible refine (impl_Bath_isWarm.calls Ad Ae Ab _ _ Ac false _ ?side1 ?side2 A3.out).mono ?_); (case side1 => exact Z95); (case side2 => exact Al.out); rintro e Ba ⟨rfl, hb⟩; refine ⟨_, rfl, ?_⟩; replace Aa := bkB Aa hb; replace HB := hbS Z66 hb; (try clear hb); (try clear hb2); (try clear hk); (try clear hi); refine hK.out _ _ Z112 (fun hHeld => ?_); clear hK K; refine noR 6 ?_; refine puR 2 7 #[true, true, true, false, false, false, false, false, false, false, false] HT_ rfl rfl ?_; refine pure_ (i := 3) (N := some 8) (v := undef) (a' := ?_) #[true, true, true, true, false, false, false, false, false, false, false] rfl rfl (any_of HT_.out Z37) (fun _ _ _ h => h) (Or.inr ⟨by rfl, rfl⟩) ?_ ?_
  rotate_left
  ·exact Z4
  refine pure_ (i := 4) (N := some 9) (v := undef) (a' := ?_) #[true, true, true, true, true, false, false, false, false, false, false] rfl rfl (any_of HT_.out Z37) (fun _ _ _ h => h) (Or.inr ⟨by rfl, rfl⟩) ?_ ?_
  rotate_left
  ·exact Z4
  refine pure_ (i := 5) (N := some 10) (v := undef) (a' := ?_) #[true, true, true, true, true, true, false, false, false, false, false] rfl rfl (any_of HT_.out Z37) (fun _ _ _ h => h) (Or.inr ⟨by rfl, rfl⟩) ?_ ?_
  rotate_left
  ·exact Z4
  refine pure_ (i := 6) (N := some 11) (v := undef) (a' := ?_) #[true, true, true, true, true, true, true, false, false, false, false] rfl rfl (any_of HT_.out Z37) (fun _ _ _ h => h) (Or.inr ⟨by rfl, rfl⟩) ?_ ?_
  rotate_left
  ·exact Z4
  refine pure_ (i := 7) (N := some 12) (v := undef) (a' := ?_) #[true, true, true, true, true, true, true, true, false, false, false] rfl rfl (any_of HT_.out Z37) (fun _ _ _ h => h) (Or.inr ⟨by rfl, rfl⟩) ?_ ?_
  rotate_left
  ·exact Z4
  refine pure_ (i := 8) (N := some 13) (v := undef) (a' := ?_) #[true, true, true, true, true, true, true, true, true, false, false] rfl rfl (any_of HT_.out Z37) (fun _ _ _ h => h) (Or.inr ⟨by rfl, rfl⟩) ?_ ?_
  rotate_left
  ·exact Z4
  refine puR 9 14 #[true, true, true, true, true, true, true, true, true, true, false] HT_ rfl rfl ?_; refine puR 10 4 #[true, true, true, true, true, true, true, true, true, true, true] HT_ rfl rfl ?_; refine done_ (done_of HT_.out Z37) ?_
  try go_wp2
  go_ret
  exact ⟨Z6, Z66⟩
def slices_Clone_int.f (l0 : List (Int)) : Option (List (Int)) := if l0.length < 17592186044416 then some l0 else none
theorem slices_Clone_int.calls (A0 : Option Addr) (c0 : Nat) (l0 : List (Int)) (r : List (Int)) (w : World) (Ab : Kd.C (Kd.int .i64) w A0 l0.length l0) (Ae : l0.length ≤ c0) (h : slices_Clone_int.f l0 = some r) :
  Calls Tryd.prog 22 #[.slice A0 l0.length c0] w fun e w' => ∃ v0_ : Value, e = .returned (v0_) ∧ Kd.R (Kd.int .i64) 3 w' w.heap.size (fun _ => True) v0_ r ∧ Below w.heap.size w w' := by
 unfold slices_Clone_int.f at h
 by_cases hq : l0.length < 17592186044416
 case neg => rw [if_neg hq] at h; cases h
 rw [if_pos hq] at h; obtain rfl := Option.some.inj h; have HQ := Aside0.mk hq; clear h hq; cases A0 with
 | none =>
  have hn : l0 = [] := by
   cases l0 with
   | nil => rfl
   | cons x t => exact absurd (Ab.2.2 (by simp)) (by rintro ⟨ad, e, _⟩; cases e)
  subst hn
  have Ah : ∀ (w : World) (a : Option Addr) (n c n' c' : Nat), (binOp .eql 25 (.slice a n c) (.slice none n' c')).run Tryd.prog w = .ok (.bool a.isNone) w := fun w a n c n' c' => Lib.run_eql_slice_nil w _ _ a n c n' c' Tryd.underlying25
  clear Ab Ae
  go_enter Tryd.func22, Tryd.ntmps22
  go_wp2
  go_ret
  exact ⟨_, rfl, Kd.R_nil _ _ _ _ _, Below.refl _ _⟩
 | some ad =>
  have Ah : ∀ (w : World) (a : Option Addr) (n c n' c' : Nat), (binOp .eql 25 (.slice a n c) (.slice none n' c')).run Tryd.prog w = .ok (.bool a.isNone) w := fun w a n c n' c' => Lib.run_eql_slice_nil w _ _ a n c n' c' Tryd.underlying25
  have Ai := Aside0.mk Ab; clear Ab Ae; have HB := aM (Below.refl w.heap.size w); obtain ⟨y0, Ac⟩ : ∃ y_ : List (Int), y_ = [] := ⟨_, rfl⟩; have LMc := aM (show y0.length + l0.length < 17592186044416 by rw [Ac]; simpa using HQ.out); obtain ⟨y1, Ad⟩ : ∃ y_ : List (Int), y_ = (y0 ++ l0) := ⟨_, rfl⟩
  have e1 : y1 = l0 := by rw [Ad, Ac]; rfl
  have Af := Aside0.mk Ac; have Aj := Aside0.mk Ad; have E1 := Aside0.mk e1; clear Ac Ad e1
  go_enter Tryd.func22, Tryd.ntmps22
  go_wp2_with (first | ((with_reducible refine gate_dst (N := 5) rfl ?_); refine Kd.R_lit (Kd.int .i64) _ 3 ?hg (N := 5) ?hd (xs := ([] : List (Int))) (inner := []) (ok := fun _ => True) (okp := fun _ => True) ?hr ?hp (fun _ hk => hk) trivial (Below.refl _ _) (Nat.le_refl _) (by simp) ?_; (case hd => rfl); (case hg => rfl); (case hr => first | (go_simp; done) | (go_simp; rfl)); (case hp => exact (Reps.none _ _)); intro v5 w3 Aa hb hg_ hnew_; clear hg_ hnew_; (first | rw [← Af.out] at Aa | (simp only [Int.reduceToNat] at Aa; rw [← Af.out] at Aa)); have Ag := aM (Kd.R_lower Aa (below_size Z0)); replace HB := hbS Z0 hb; clear hb Aa) | ((with_reducible refine gate_builtin (b := .append) (xs := #[.tmp 5, .tmp 6]) rfl ?_); at_builtin; refine Kd.R_append_rows (Kd.int .i64) (w0 := w) w.heap.size rfl (.tmp 5) (.tmp 6) 25 3 (.int .i64 0) 8 rfl Tryd.underlying25 info3 rfl (by decide) (by omega) v5 y0 l0 _ _ _ (fun _ => True) (fun _ => False) rfl rfl ?aO ?aR (fun _ _ h => h) (fun _ h => h.elim) ?aF ?aB ?aS ?aL ?_; (case aR => repeat (first | exact (Kd.C_below Ai.out HB.out) | (with_reducible refine Kd.C_alloc ?_ _) | (with_reducible refine Kd.C_drewN ?_ _) | (with_reducible refine Kd.C_drew ?_))); (case aB => exact Z0); (case aF => exact (fun _ _ => trivial)); (case aO => exact Z143); (case aS => exact (below_size Z0)); (case aL => have := LMc.out; omega); intro v7 w5 ho hb hg hat; rw [← Aj.out] at ho; replace HB := aM (hb); have Ak := aM (ho); clear Ag; clear ho hb hg hat))
  go_ret
  exact ⟨_, Z136, by rw [← E1.out]; (with_reducible repeat (first | apply Kd.R_alloc | apply Kd.R_drewN | apply Kd.R_drew)); exact Ak.out, Z0⟩
def impl_ceilDiv.f (a0 : Int) (a1 : Int) : Option (Int) := if a1 = 0 then (none) else (some (wrap64 (Int.tdiv (wrap64 ((wrap64 (a0 + a1)) - 1)) a1)))
theorem impl_ceilDiv.calls (a0 : Int) (a1 : Int) (r : Int) (w : World) (h : impl_ceilDiv.f a0 a1 = some r) :
  Calls Tryd.prog 43 #[.int .i64 a0, .int .i64 a1] w fun e w' => e = .returned (.int .i64 r) ∧ Drawn0 w w' := by
 have H : (if a1 = 0 then (none) else (some (wrap64 (Int.tdiv (wrap64 ((wrap64 (a0 + a1)) - 1)) a1)))) = some r := h; clear h
 by_cases c3 : a1 = 0
 ·rw [if_pos c3] at H
  exact absurd H (by simp)
 ·rw [if_neg c3] at H
  have c3b0 : (a1 == 0) = false := beq_eq_false_iff_ne.mpr c3; have c3b1 : (a1 != 0) = true := bne_iff_ne.mpr c3; obtain rfl := Option.some.inj H
  go_enter Tryd.func43, Tryd.ntmps43
  go_wp2
  go_ret
  exact ⟨Z20, Z75⟩
def impl_needs.l0 : Nat → Int → List Int → List (S43) → Int → Int → Option (List Int)
 | 0, _, _, _, _, _ => none
 | k + 1, x1, x5, x9, x10, x11 => if x11 < x10 then (if 0 ≤ x11 then (if x11 < (x9.length : Int) then ((impl_ceilDiv.f (wrap64 (((rd_T43 x9 x11).f1) * x1)) 1000).bind fun t292 => (if x5.length < 17592186044416 then (impl_needs.l0 k x1 (x5 ++ [t292]) x9 x10 (wrap64 (x11 + 1))) else (none))) else (none)) else (none)) else (some x5)
def impl_needs.f (k : Nat) (l0 : List (S43)) (a1 : Int) : Option (List Int) := impl_needs.l0 k a1 (([] : List Int)) l0 (l0.length : Int) 0
theorem impl_needs.calls (k : Nat) (A0 : Option Addr) (c0 : Nat) (l0 : List (S43)) (a1 : Int) (r : List Int) (w : World) (Ba : Kd.C k43 w A0 l0.length l0) (Bb : l0.length ≤ c0) (h : impl_needs.f k l0 a1 = some r) :
  Calls Tryd.prog 23 #[.slice A0 l0.length c0, .int .i64 a1] w fun e w' => ∃ v0_ : Value, e = .returned (v0_) ∧ Kd.R (Kd.int .i64) 3 w' w.heap.size (fun _ => True) v0_ r ∧ Below w.heap.size w w' := by
 have hu43 := Tryd.underlying43; have Bf := Aside0.mk Ba; have Bj := Aside0.mk Bb; clear Ba Bb; have HB := aM (Below.refl w.heap.size w); have H : (impl_needs.l0 k a1 (([] : List Int)) l0 (l0.length : Int) 0) = some r := h; clear h; obtain ⟨Ao, Ae⟩ : ∃ y_ : List Int, y_ = (([] : List Int)) := ⟨_, rfl⟩
 replace H : (impl_needs.l0 k a1 Ao l0 (l0.length : Int) 0) = some r := by first | (rw [Ae]; with_reducible exact H) | (have H2_ := (Option.bind_some _ _).symm.trans H; rw [Ae]; with_reducible exact H2_) | (have H2_ := (Option.bind_some _ _).symm.trans H; with_reducible exact H2_) | with_reducible exact H | (rw [Ae]; exact H) | exact H
 have Al := Aside0.mk Ae; clear Ae; have H' := Aside0.mk H; clear H
 go_enter Tryd.func23, Tryd.ntmps23
 go_wp2_with (first | ((with_reducible refine gate_dst (N := 8) rfl ?_); refine Kd.R_lit (Kd.int .i64) _ 3 ?hg (N := 8) ?hd (xs := ([] : List Int)) (inner := []) (ok := fun _ => True) (okp := fun _ => True) ?hr ?hp (fun _ hk => hk) trivial (Below.refl _ _) (Nat.le_refl _) (by simp) ?_; (case hd => rfl); (case hg => rfl); (case hr => first | (go_simp; done) | (go_simp; rfl)); (case hp => exact (Reps.none _ _)); intro Bg w3 Ap hb hg_ hnew_; clear hg_ hnew_; (first | rw [← Al.out] at Ap | (simp only [Int.reduceToNat] at Ap; rw [← Al.out] at Ap)); have Aq := aM (Kd.R_lower Ap (below_size Z0)); replace HB := hbS Z0 hb; clear hb Ap))
 go_loopg [5, 11] k (fun kq v5 Bh w' => ∃ (Af : List Int) (Aa : Int), Bh = .int .i64 Aa ∧ Aside0 (impl_needs.l0 kq a1 Af l0 (l0.length : Int) Aa = some r) ∧ Aside0 (kq ≤ k) ∧ Aside0 (Kd.R (Kd.int .i64) 3 w' w.heap.size (fun _ => True) v5 Af) ∧ Aside0 (Below w.heap.size w w'))
 case atStart => exact ⟨(Ao), (0), Z20, H', ⟨Nat.le_refl _⟩, ⟨Z81⟩, ⟨Z0⟩⟩
 case round =>
  clear H'; (try clear c2); (try clear p2); obtain ⟨Af, Aa, rfl, HA, HK1, Ah, HB⟩ := hrel; cases gk with
  | zero => exact absurd HA.out (by simp [impl_needs.l0])
  | succ k1 =>
   have H := HA.out; clear HA
   simp only [impl_needs.l0] at H
   by_cases c5 : Aa < (l0.length : Int)
   ·rw [if_pos c5] at H
    have c5b0 : decide (Aa < (l0.length : Int)) = true := decide_eq_true c5; clear c5
    by_cases c6 : 0 ≤ Aa
    ·rw [if_pos c6] at H
     have c6b0 : decide (0 ≤ Aa) = true := decide_eq_true c6; clear c6
     by_cases c7 : Aa < (l0.length : Int)
     ·rw [if_pos c7] at H
      have c7b0 : decide (Aa < (l0.length : Int)) = true := decide_eq_true c7; clear c7; replace H := Option.bind_eq_some_iff.mp H; obtain ⟨Ai, Bc, H⟩ := H; replace H : (if Af.length < 17592186044416 then (impl_needs.l0 k1 a1 (Af ++ [Ai]) l0 (l0.length : Int) (wrap64 (Aa + 1))) else (none)) = some r := H; have A8 := Aside0.mk Bc; clear Bc
      by_cases c9 : Af.length < 17592186044416
      ·rw [if_pos c9] at H
       have LMc9 := Aside0.mk c9; clear c9; obtain ⟨Ar, Ag⟩ : ∃ y_ : List Int, y_ = (Af ++ [Ai]) := ⟨_, rfl⟩
       replace H : (impl_needs.l0 k1 a1 Ar l0 (l0.length : Int) (wrap64 (Aa + 1))) = some r := by first | (rw [Ag]; with_reducible exact H) | (have H2_ := (Option.bind_some _ _).symm.trans H; rw [Ag]; with_reducible exact H2_) | (have H2_ := (Option.bind_some _ _).symm.trans H; with_reducible exact H2_) | with_reducible exact H | (rw [Ag]; exact H) | exact H
       have Au := Aside0.mk Ag; clear Ag; have H' := Aside0.mk H; clear H; have Am : 0 ≤ (Aa : Int) := of_decide_eq_true Z8; have An : Aa < (l0.length : Int) := of_decide_eq_true Z8; obtain ⟨ad290, e290, Ac, Ad⟩ := at_T43 Bf.out Aa Am An; cases e290; replace Ac := (HB.out.cell (World.block_lt_of_cell? w _ Ac)).trans Ac; replace Ad := (HB.out.cell (World.block_lt_of_cell? w _ Ad)).trans Ad; replace Am := eq_true Am; replace An := eq_true An
       go_wp2_with (first | ((with_reducible refine gate_dst (N := 7) rfl ?_); refine bxE 7 #[.string (⟨#[]⟩ : ByteArray), .int .i64 0] 43 ?_; intro Aj hg Bk hbox hb; replace Ah := roB Ah hb; have Ab := aM (hbox); have Bd := gwS hg Z0; have Ak := gwS hg Z0; replace HB := hbS Z0 hb; clear hb hbox hg; obtain ⟨Aw, Ax⟩ := bz2 Ab; obtain ⟨Ay, Az⟩ := fz2 Ab) | ((with_reducible refine gate_callee (f := 43) rfl ?_); refine glE (some 20) Tryd.func43 #[.int .i64 (wrap64 (((rd_T43 l0 Aa).f1) * a1)), .int .i64 1000] ?_; (with_reducible refine (impl_ceilDiv.calls (wrap64 (((rd_T43 l0 Aa).f1) * a1)) 1000 Ai _ A8.out).mono ?_); rintro e w' ⟨rfl, ⟨nd, rfl⟩⟩; refine ⟨_, rfl, ?_⟩) | ((with_reducible refine gate_builtin (b := .append) (xs := #[.tmp 15, .tmp 21]) rfl ?_); at_builtin; refine Kd.R_append (Kd.int .i64) (w0 := w) w.heap.size rfl (.tmp 15) (.tmp 21) 25 3 (.int .i64 0) 8 rfl Tryd.underlying25 info3 rfl (by decide) (by omega) u5 Af Ai [.int .i64 Ai] (fun _ => True) (fun _ => False) rfl (by first | (go_simp; done) | (go_simp; rfl)) ?aP (fun _ hk => hk.elim) ?aF ?aO ?aB ?aS ?aL ?_; (case aP => exact rfl); (case aB => exact Z67); (case aF => exact (fun _ _ => trivial)); (case aO => exact (by (with_reducible repeat (first | apply Kd.R_alloc | apply Kd.R_drewN | apply Kd.R_drew)); exact Kd.R_mono (Kd.R_far (p := ⟨Aj, 1, none⟩) (Kd.R_far (p := ⟨Aj, 0, none⟩) (Kd.R_types Ah.out Ab.out (by decide)) (fun _ hk => hk.2) (.string ((rd_T43 l0 Aa).f0))) (fun _ hk => hk.2) (.int .i64 ((rd_T43 l0 Aa).f1))) (fun _ hk => trivial))); (case aS => exact (below_size Z67)); (case aL => have := LMc9.out; omega); intro Bi Bl ho hb hg hat; rw [← Au.out] at ho; replace Ab := aM (blk_grown (g := Aj) (o := .cells #[.string ((rd_T43 l0 Aa).f0), .int .i64 ((rd_T43 l0 Aa).f1)] 43 (0, 0)) (by (with_reducible repeat (first | refine blk_drewN ?_ _ | refine blk_drew ?_ | refine blk_alloc ?_ _)); refine blk_put (cs := #[.string ((rd_T43 l0 Aa).f0), .int .i64 0]) ?_ 1 _ rfl; (with_reducible repeat (first | refine blk_drewN ?_ _ | refine blk_drew ?_ | refine blk_alloc ?_ _)); refine blk_put (cs := #[.string (⟨#[]⟩ : ByteArray), .int .i64 0]) ?_ 0 _ rfl; (with_reducible repeat (first | refine blk_drewN ?_ _ | refine blk_drew ?_ | refine blk_alloc ?_ _)); exact Ab.out) hg (Kd.R_ne Ah.out Ab.out (by decide))); replace HB := aM (hb); have Av := aM (ho); clear Ah; clear ho hb hg hat))
       go_roundg k1
       case measure => have := HK1.out; omega
       case rel => exact ⟨(Ar), (wrap64 (Aa + 1)), Z20, H', ⟨Z135⟩, ⟨by (with_reducible repeat (first | apply Kd.R_alloc | apply Kd.R_drewN | apply Kd.R_drew)); exact Av.out⟩, ⟨Z67⟩⟩
      ·rw [if_neg c9] at H
       exact absurd H (by simp)
     ·rw [if_neg c7] at H
      exact absurd H (by simp)
    ·rw [if_neg c6] at H
     exact absurd H (by simp)
   ·rw [if_neg c5] at H
    have c5b0 : decide (Aa < (l0.length : Int)) = false := decide_eq_false c5; clear c5; obtain rfl := Option.some.inj H
    go_wp2
    go_ret
    exact ⟨_, Z6, Z76, Z0⟩
mutual
def impl_DyeYarn.j0 : Nat → List (S43) → Bool → Int → Int → Int → List Int → Option (Int × Int × Int × List Int × Bool)
 | 0, _, _, _, _, _, _ => none
 | k + 1, x0, x18, x297000, x297001, x297002, x297003 => if x18 = true then (some (0, 0, 0, ([] : List Int), false)) else ((slices_Clone_int.f x297003).bind fun t300 => ((impl_needs.f k x0 x297002).bind fun t304 => (impl_DyeYarn.l0 k t304 (t304.length : Int) 0 x297000 x297001 0 t300)))
def impl_DyeYarn.l0 : Nat → List Int → Int → Int → Int → Int → Int → List Int → Option (Int × Int × Int × List Int × Bool)
 | 0, _, _, _, _, _, _, _ => none
 | k + 1, x31, x32, x33, x304000, x304001, x304002, x304003 => if x33 < x32 then (if 0 ≤ x33 then (if x33 < (x31.length : Int) then (if x33 < (x304003.length : Int) then (impl_DyeYarn.l0 k x31 x32 (wrap64 (x33 + 1)) x304000 x304001 x304002 (x304003.set (x33 : Int).toNat (wrap64 ((rd x304003 x33) - (rd x31 x33))))) else (none)) else (none)) else (none)) else (some (x304000, x304001, x304002, x304003, true))
end
def impl_DyeYarn.f (k : Nat) (l0 : List (S43)) (a1_0 : Int) (a1_1 : Int) (a1_2 : Int) (l1_3 : List Int) : Option (Int × Int × Int × List Int × Bool) := (impl_IsBath.f k l0 a1_0 a1_1 a1_2 l1_3).bind fun t298 => (if t298 = true then ((impl_Bath_isReady.f k a1_0 a1_1 a1_2 l1_3 l0).bind fun t299 => (impl_DyeYarn.j0 k l0 (!t299) a1_0 a1_1 a1_2 l1_3)) else (impl_DyeYarn.j0 k l0 true a1_0 a1_1 a1_2 l1_3))
def impl_DyeYarn.T3 : Bool × List (List Nat × List Nat) := (true, [([], []), ([0], [0]), ([], []), ([2], [2]), ([], []), ([4], [4]), ([5], [5]), ([1, 3, 6], [1, 3, 6]), ([], []), ([8, 7, 6, 0, 1, 2, 3, 4, 5, 6, 7, 8], [7, 8])])
def impl_DyeYarn.B3 : List Nat := [0, 1, 0, 4, 0, 16, 48, 127, 0, 511]
theorem impl_DyeYarn.tab3 : rtab .any (opsOf Tryd.f6 3) = impl_DyeYarn.T3 := by kernel_rfl
theorem impl_DyeYarn.bits3 : waitsOk impl_DyeYarn.T3.2 impl_DyeYarn.B3 = true := by kernel_rfl
theorem impl_DyeYarn.calls (k : Nat) (A0 : Option Addr) (c0 : Nat) (l0 : List (S43)) (Ah : Int) (Aj : Int) (Ar : Int) (Bc : Option Addr) (Bd : Nat) (Ao : List Int) (r1 : Int) (r2 : Int) (r3 : Int) (r4 : List Int) (r5 : Bool) (w : World) (E8 : Kd.C k43 w A0 l0.length l0) (E9 : l0.length ≤ c0) (C7 : Kd.C (Kd.int .i64) w Bc Ao.length Ao) (C8 : Ao.length ≤ Bd) (h : impl_DyeYarn.f k l0 Ah Aj Ar Ao = some (r1, r2, r3, r4, r5)) :
  Calls Tryd.prog 6 #[.slice A0 l0.length c0, .agg #[.int .i64 Ah, .int .i64 Aj, .int .i64 Ar, .slice Bc Ao.length Bd]] w fun e w' => ∃ v3_ : Value, e = .returned (.tuple #[.agg #[.int .i64 r1, .int .i64 r2, .int .i64 r3, v3_], .bool r5]) ∧ Kd.R (Kd.int .i64) 3 w' w.heap.size (fun _ => True) v3_ r4 ∧ Below w.heap.size w w' := by
 have hu27 := Tryd.underlying27; have Dx := Aside0.mk E8; have Dy := Aside0.mk E9; clear E8 E9; have Bi := Aside0.mk C7; have Bj := Aside0.mk C8; clear C7 C8; have HB := aM (Below.refl w.heap.size w); have H : ((impl_IsBath.f k l0 Ah Aj Ar Ao).bind fun Cm => (if Cm = true then ((impl_Bath_isReady.f k Ah Aj Ar Ao l0).bind fun Bh => (impl_DyeYarn.j0 k l0 (!Bh) Ah Aj Ar Ao)) else (impl_DyeYarn.j0 k l0 true Ah Aj Ar Ao))) = some (r1, r2, r3, r4, r5) := h; clear h; have Es := Aside0.mk H; clear H
 go_enter Tryd.func6, Tryd.ntmps6
 go_upto_region 1 with (first | ((with_reducible refine gate_dst (N := 3) rfl ?_); refine bxE 3 #[.int .i64 Ah, .int .i64 Aj, .int .i64 Ar, .slice Bc Ao.length Bd] 27 ?_; intro Aq hg w4 hbox hb; have Ab := aM (hbox); have Fa := gwS hg Z0; have Al := gwS hg Z0; replace HB := hbS Z0 hb; clear hb hbox hg) | ((with_reducible refine gate_dst (N := 4) rfl ?_); refine bxE 4 #[.int .i64 0, .int .i64 0, .int .i64 0, .slice none 0 0] 27 ?_; intro Av hg w5 hbox hb; have Ac := aM (hbox); have Fb := gwS hg Z101; have Ap := gwS hg Z101; replace HB := hbS Z101 hb; have Ax := nbL hg Ab; have Ay := nbG hg Ab; replace Ab := bkB Ab hb; clear hb hbox hg))
 (try simp only [Act.put, List.setIfInBounds_toArray, List.set_cons_zero, List.set_cons_succ])
 go_cut [18] (fun Fy wc => ∃ (kq : Nat) (Bm : Bool), Fy = .bool Bm ∧ Aside0 (impl_DyeYarn.j0 kq l0 Bm Ah Aj Ar Ao = some (r1, r2, r3, r4, r5)) ∧ Aside0 (kq ≤ k) ∧ Aside0 (wc.heap[Aq]? = some (.cells #[.int .i64 Ah, .int .i64 Aj, .int .i64 Ar, (.slice Bc Ao.length Bd)] 27 (0, 0))) ∧ Aside0 (wc.heap[Av]? = some (.cells #[.int .i64 0, .int .i64 0, .int .i64 0, (.slice none 0 0)] 27 (0, 0))) ∧ Aside0 (Below w.heap.size w wc))
 case first =>
  have H := Es.out; clear Es; replace H := Option.bind_eq_some_iff.mp H; obtain ⟨Cm, Fc, H⟩ := H; replace H : (if Cm = true then ((impl_Bath_isReady.f k Ah Aj Ar Ao l0).bind fun Bh => (impl_DyeYarn.j0 k l0 (!Bh) Ah Aj Ar Ao)) else (impl_DyeYarn.j0 k l0 true Ah Aj Ar Ao)) = some (r1, r2, r3, r4, r5) := H; have A6 := Aside0.mk Fc; clear Fc
  by_cases c7 : Cm = true
  ·subst c7
   have H1 : ((impl_Bath_isReady.f k Ah Aj Ar Ao l0).bind fun Bh => (impl_DyeYarn.j0 k l0 (!Bh) Ah Aj Ar Ao)) = some (r1, r2, r3, r4, r5) := by rw [if_pos rfl] at H; exact H
   clear H; have H := H1; clear H1; replace H := Option.bind_eq_some_iff.mp H; obtain ⟨Bh, Fd, H⟩ := H; replace H : (impl_DyeYarn.j0 k l0 (!Bh) Ah Aj Ar Ao) = some (r1, r2, r3, r4, r5) := H; have A8 := Aside0.mk Fd; clear Fd; have H' := Aside0.mk H; clear H; have Fz := Ax.out; have F0 := Ay.out; obtain ⟨Bn, Bo, Bp, Bq⟩ := bz4 Ab; obtain ⟨Br, Bs, Bt, Bu⟩ := fz4 Ab
   go_wp2_with (first | ((with_reducible refine gate_callee (f := 11) rfl ?_); refine glE (some 11) Tryd.func11 #[.slice A0 l0.length c0, .agg #[.int .i64 Ah, .int .i64 Aj, .int .i64 Ar, .slice Bc Ao.length Bd]] ?_; (with_reducible refine (impl_IsBath.calls k _ _ l0 Ah Aj Ar _ _ Ao true _ ?side1 ?side2 ?side3 ?side4 A6.out).mono ?_); (case side1 => exact Z96); (case side2 => exact Dy.out); (case side3 => exact Z77); (case side4 => exact Bj.out); rintro e Ga ⟨rfl, hb⟩; refine ⟨_, rfl, ?_⟩; replace Ab := bkB Ab hb; replace Ac := bkB Ac hb; replace HB := hbS Z34 hb; (try clear hb); obtain ⟨Bv, Bw, Bx, Bz⟩ := bz4 Ab; obtain ⟨B0, B2, B6, Ca⟩ := fz4 Ab) | (go_at_call 21; (with_reducible refine (impl_Bath_isReady.calls k Ah Aj Ar _ _ Ao _ _ l0 Bh _ ?side1 ?side2 ?side3 ?side4 A8.out).mono ?_); (case side1 => exact Z77); (case side2 => exact Bj.out); (case side3 => exact Z96); (case side4 => exact Dy.out); rintro e Gb ⟨rfl, hb⟩; replace Ab := bkB Ab hb; replace Ac := bkB Ac hb; replace HB := hbS Z34 hb; (try clear hb)))
   go_meet
   case rel => exact ⟨_, (!Bh), Z20, H', ⟨Z100⟩, ⟨Z53⟩, ⟨Z64⟩, ⟨Z34⟩⟩
  ·replace c7 := Bool.eq_false_iff.mpr c7
   subst c7
   have H1 : (impl_DyeYarn.j0 k l0 true Ah Aj Ar Ao) = some (r1, r2, r3, r4, r5) := by rw [if_neg (show ¬ (false = true) by decide)] at H; exact H
   clear H; have H := H1; clear H1; have H' := Aside0.mk H; clear H; have Fe := Ax.out; have Ff := Ay.out; obtain ⟨Cb, Cc, Cd, Ce⟩ := bz4 Ab; obtain ⟨Cf, Cg, Ch, Ci⟩ := fz4 Ab
   go_wp2_with (first | ((with_reducible refine gate_callee (f := 11) rfl ?_); refine glE (some 11) Tryd.func11 #[.slice A0 l0.length c0, .agg #[.int .i64 Ah, .int .i64 Aj, .int .i64 Ar, .slice Bc Ao.length Bd]] ?_; (with_reducible refine (impl_IsBath.calls k _ _ l0 Ah Aj Ar _ _ Ao false _ ?side1 ?side2 ?side3 ?side4 A6.out).mono ?_); (case side1 => exact Z96); (case side2 => exact Dy.out); (case side3 => exact Z77); (case side4 => exact Bj.out); rintro e Gc ⟨rfl, hb⟩; refine ⟨_, rfl, ?_⟩; replace Ab := bkB Ab hb; replace Ac := bkB Ac hb; replace HB := hbS Z34 hb; (try clear hb)))
   go_meet
   case rel => exact ⟨_, (true), Z20, H', ⟨Z100⟩, ⟨Z53⟩, ⟨Z64⟩, ⟨Z34⟩⟩
 case rest =>
  clear Es; (try clear c1); (try clear p2); (try clear c6); (try clear c7); (try clear c9); (try clear F1); (try clear F2); (try clear Bn); (try clear Bo); (try clear Bp); (try clear Bq); (try clear Bv); (try clear Bw); (try clear Bx); (try clear Bz); (try clear Cb); (try clear Cc); (try clear Cd); (try clear Ce); (try clear Br); (try clear Bs); (try clear Bt); (try clear Bu); (try clear B0); (try clear B2); (try clear B6); (try clear Ca); (try clear Cf); (try clear Cg); (try clear Ch); (try clear Ci); obtain ⟨kq, Bm, rfl, HA, HJ2, Ab, Ac, HB⟩ := hcut; cases kq with
  | zero => exact absurd HA.out (by simp [impl_DyeYarn.j0])
  | succ C9 =>
   have H := HA.out; clear HA
   simp only [impl_DyeYarn.j0] at H
   by_cases Dk : Bm = true
   ·subst Dk
    have H1 : (some (0, 0, 0, ([] : List Int), false)) = some (r1, r2, r3, r4, r5) := by rw [if_pos rfl] at H; exact H
    clear H; have H := H1; clear H1
    simp only [Option.some.injEq, Prod.mk.injEq] at H
    obtain ⟨rfl, rfl, rfl, rfl, rfl⟩ := H; have Fg := Ay.out; have Fh := Ax.out; obtain ⟨Cn, Co, Cp, Cq⟩ := bz4 Ac; obtain ⟨Cr, Cs, Ct, Cu⟩ := fz4 Ac
    go_wp2
    refine bodyPost_ret (results_ct rfl _ _ Av 27 #[.int .i64 0, .int .i64 0, .int .i64 0, .slice none 0 0] (0, 0) _ rfl Z24 Tryd.underlying27 rfl Z37) rfl ?_
    exact ⟨_, Z6, Z48, Z34⟩
   ·replace Dk := Bool.eq_false_iff.mpr Dk
    subst Dk
    have H1 : ((slices_Clone_int.f Ao).bind fun Bf => ((impl_needs.f C9 l0 Ar).bind fun Bb => (impl_DyeYarn.l0 C9 Bb (Bb.length : Int) 0 Ah Aj 0 Bf))) = some (r1, r2, r3, r4, r5) := by rw [if_neg (show ¬ (false = true) by decide)] at H; exact H
    clear H; have H := H1; clear H1; replace H := Option.bind_eq_some_iff.mp H; obtain ⟨Bf, Dl, H⟩ := H; replace H : ((impl_needs.f C9 l0 Ar).bind fun Bb => (impl_DyeYarn.l0 C9 Bb (Bb.length : Int) 0 Ah Aj 0 Bf)) = some (r1, r2, r3, r4, r5) := H; have Fi := Aside0.mk Dl; clear Dl; replace H := Option.bind_eq_some_iff.mp H; obtain ⟨Bb, Dm, H⟩ := H; replace H : (impl_DyeYarn.l0 C9 Bb (Bb.length : Int) 0 Ah Aj 0 Bf) = some (r1, r2, r3, r4, r5) := H; have F3 := Aside0.mk Dm; clear Dm; have H' := Aside0.mk H; clear H
    try go_wp2
    replace Ab := aM (blk_drew Ab.out); replace Ac := aM (blk_drew Ac.out); replace HB := aM (below_drew1 HB.out); refine start_ (n := 10) (S := fun w' => w'.cell? ⟨Aq, 0, none⟩ = some (.int .i64 Ah) ∧ w'.cell? ⟨Aq, 1, none⟩ = some (.int .i64 Aj) ∧ w'.cell? ⟨Aq, 2, none⟩ = some (.int .i64 Ar) ∧ w'.cell? ⟨Aq, 3, none⟩ = some (.slice Bc Ao.length Bd)) (ds := []) #[false, false, false, false, false, false, false, false, false, false] Z37 rfl rfl ⟨(blk_cell Ab.out 0).trans rfl, (blk_cell Ab.out 1).trans rfl, (blk_cell Ab.out 2).trans rfl, (blk_cell Ab.out 3).trans rfl⟩ (fun hHeld => ?_); refine with_tabW impl_DyeYarn.tab3 impl_DyeYarn.bits3 (fun HT_ HW_ => ?_)
    generalize wc.drew = Gd at Ab Ac HB hHeld ⊢
    refine puR 0 20 #[true, false, false, false, false, false, false, false, false, false] HT_ rfl rfl ?_; refine puR 2 22 #[true, false, true, false, false, false, false, false, false, false] HT_ rfl rfl ?_; refine puR 4 24 #[true, false, true, false, true, false, false, false, false, false] HT_ rfl rfl ?_; refine taR 1 21 #[true, true, true, false, true, false, false, false, false, false] HT_ HW_ hHeld rfl rfl ?_; refine taR 3 23 #[true, true, true, true, true, false, false, false, false, false] HT_ HW_ hHeld rfl rfl ?_; refine taR 5 25 #[true, true, true, true, true, true, false, false, false, false] HT_ HW_ hHeld rfl rfl ?_; refine join_ (σ := Value × Nat) 1 #[true, true, true, true, true, true, true, true, true, false] (fun s_ => [(26, s_.1), (6, .pointer (some ⟨s_.2, 0, none⟩)), (27, .agg #[.int .i64 Ah, .int .i64 Aj, .int .i64 0, s_.1])]) (fun s_ w' => (w'.cell? ⟨Aq, 0, none⟩ = some (.int .i64 Ah) ∧ w'.cell? ⟨Aq, 1, none⟩ = some (.int .i64 Aj) ∧ w'.cell? ⟨Aq, 2, none⟩ = some (.int .i64 Ar) ∧ w'.cell? ⟨Aq, 3, none⟩ = some (.slice Bc Ao.length Bd)) ∧ (Kd.R (Kd.int .i64) 3 w' w.heap.size (fun _ => True) s_.1 Bf) ∧ (w'.heap[Aq]? = some (.cells #[.int .i64 Ah, .int .i64 Aj, .int .i64 Ar, .slice Bc Ao.length Bd] 27 (0, 0))) ∧ (w'.heap[Av]? = some (.cells #[.int .i64 0, .int .i64 0, .int .i64 0, .slice none 0 0] 27 (0, 0))) ∧ (w'.heap[s_.2]? = some (.cells #[.int .i64 0, .int .i64 0, .int .i64 0, .slice none 0 0] 27 (0, 0))) ∧ (w.heap.size ≤ s_.2) ∧ (w.heap.size ≤ s_.2) ∧ (Aq ≠ s_.2) ∧ (s_.2 ≠ Aq) ∧ (Av ≠ s_.2) ∧ (s_.2 ≠ Av) ∧ (Below w.heap.size w w')) ?_ ?_
    rotate_left
    ·intro hCont
     refine two_ (i := 6) (j := 8) (Ni := some 26) (Nj := some 6) #[true, true, true, true, true, true, true, false, false, false] #[true, true, true, true, true, true, false, false, true, false] rfl rfl rfl rfl (two_of HT_.out Z37) (by decide) (by decide) (fun K hK => ?_) (fun K hK => ?_)
     ·skip
      refine goes_ Tryd.func22 Z37 rfl #[.slice Bc Ao.length Bd] (by rfl) rfl rfl Z31 ?_; (with_reducible refine (slices_Clone_int.calls _ _ Ao Bf _ ?side1 ?side2 Fi.out).mono ?_); (case side1 => exact Z77); (case side2 => exact Bj.out); rintro e F4 ⟨Db, rfl, Cv, hb⟩; refine ⟨_, rfl, ?_⟩; have Az := aM (Kd.R_lower Cv (below_size Z34)); replace Ab := bkB Ab hb; replace Ac := bkB Ac hb; replace HB := hbS Z34 hb; (try clear hb); (try clear hb2); (try clear hk); (try clear hi); (try clear Cv); obtain ⟨Et, Eu, Dn⟩ := Kd.R_slice Az.out
      (first | subst Dn | (injection Dn with f1_ f2_ f3_; have f4_ := f1_.symm; have f5_ := f3_.symm; clear f1_ f2_ f3_; subst f4_; subst f5_))
      refine hK.out _ _ Z94 (fun hHeld => ?_); clear hK K; refine noR 26 ?_; refine puR 7 27 #[true, true, true, true, true, true, true, true, false, false] HT_ rfl rfl ?_; refine one_ (i := 8) (N := some 6) #[true, true, true, true, true, true, true, true, true, false] rfl rfl (one_of HT_.out Z37) (by decide) (fun K hK => ?_); refine box_step ?hg (N := 6) ?hd (cs := #[.int .i64 0, .int .i64 0, .int .i64 0, .slice none 0 0]) (t := 27) ?hr ?_; (case hd => rfl); (case hg => rfl); (case hr => first | (go_simp; done) | (go_simp; rfl)); intro Ae hg Ge hbox hb; replace Az := roB Az hb; have Ak := aM (hbox); have Cj := gwS hg Z34; have Aw := gwS hg Z34; replace HB := hbS Z34 hb; have Aa := nbL hg Ab; have Am := nbG hg Ab; replace Ab := bkB Ab hb; have Af := nbL hg Ac; have An := nbG hg Ac; replace Ac := bkB Ac hb; clear hb hbox hg; refine hK.out _ _ Z94 (fun hHeld => ?_); clear hK K; refine noR 6 ?_
      exact norm_ Z113 (hCont (.slice Et Bf.length Eu, Ae) _ ⟨hHeld, Z82, Z53, Z64, Z104, Cj.out, Aw.out, Aa.out, Am.out, Af.out, An.out, Z39⟩)
     ·skip
      refine box_step ?hg (N := 6) ?hd (cs := #[.int .i64 0, .int .i64 0, .int .i64 0, .slice none 0 0]) (t := 27) ?hr ?_; (case hd => rfl); (case hg => rfl); (case hr => first | (go_simp; done) | (go_simp; rfl)); intro Ae hg F4 hbox hb; have Ak := aM (hbox); have Cj := gwS hg Z34; have Aw := gwS hg Z34; replace HB := hbS Z34 hb; have Aa := nbL hg Ab; have Am := nbG hg Ab; replace Ab := bkB Ab hb; have Af := nbL hg Ac; have An := nbG hg Ac; replace Ac := bkB Ac hb; clear hb hbox hg; refine hK.out _ _ Z94 (fun hHeld => ?_); clear hK K; refine noR 6 ?_; refine one_ (i := 6) (N := some 26) #[true, true, true, true, true, true, true, false, true, false] rfl rfl (one_of HT_.out Z37) (by decide) (fun K hK => ?_); refine goes_ Tryd.func22 Z37 rfl #[.slice Bc Ao.length Bd] (by rfl) rfl rfl Z31 ?_; (with_reducible refine (slices_Clone_int.calls _ _ Ao Bf _ ?side1 ?side2 Fi.out).mono ?_); (case side1 => exact Z77); (case side2 => exact Bj.out); rintro e Gf ⟨Db, rfl, Cv, hb⟩; refine ⟨_, rfl, ?_⟩; have Az := aM (Kd.R_lower Cv (below_size Z39)); replace Ab := bkB Ab hb; replace Ac := bkB Ac hb; replace Ak := bkB Ak hb; replace HB := hbS Z39 hb; (try clear hb); (try clear hb2); (try clear hk); (try clear hi); (try clear Cv); obtain ⟨Ew, Ex, Dp⟩ := Kd.R_slice Az.out
      (first | subst Dp | (injection Dp with f1_ f2_ f3_; have f4_ := f1_.symm; have f5_ := f3_.symm; clear f1_ f2_ f3_; subst f4_; subst f5_))
      refine hK.out _ _ Z94 (fun hHeld => ?_); clear hK K; refine noR 26 ?_; refine puR 7 27 #[true, true, true, true, true, true, true, true, true, false] HT_ rfl rfl ?_
      exact norm_ Z113 (hCont (.slice Ew Bf.length Ex, Ae) _ ⟨hHeld, Z82, Z53, Z64, Z104, Cj.out, Aw.out, Aa.out, Am.out, Af.out, An.out, Z39⟩)
    rintro ⟨Db, Ae⟩ Ck ⟨hS_, h0_, h1_, h2_, h3_, h4_, h5_, h6_, h7_, h8_, h9_, h10_⟩; have n0_ : Aside0 (Kd.R (Kd.int .i64) 3 Ck w.heap.size (fun _ => True) Db Bf) := ⟨h0_⟩; have n1_ : Aside0 (Ck.heap[Aq]? = some (.cells #[.int .i64 Ah, .int .i64 Aj, .int .i64 Ar, .slice Bc Ao.length Bd] 27 (0, 0))) := ⟨h1_⟩; have n2_ : Aside0 (Ck.heap[Av]? = some (.cells #[.int .i64 0, .int .i64 0, .int .i64 0, .slice none 0 0] 27 (0, 0))) := ⟨h2_⟩; have n3_ : Aside0 (Ck.heap[Ae]? = some (.cells #[.int .i64 0, .int .i64 0, .int .i64 0, .slice none 0 0] 27 (0, 0))) := ⟨h3_⟩; have n4_ : Aside0 (w.heap.size ≤ Ae) := ⟨h4_⟩; have n5_ : Aside0 (w.heap.size ≤ Ae) := ⟨h5_⟩; have n6_ : Aside0 (Aq ≠ Ae) := ⟨h6_⟩; have n7_ : Aside0 (Ae ≠ Aq) := ⟨h7_⟩; have n8_ : Aside0 (Av ≠ Ae) := ⟨h8_⟩; have n9_ : Aside0 (Ae ≠ Av) := ⟨h9_⟩; have n10_ : Aside0 (Below w.heap.size w Ck) := ⟨h10_⟩; clear Ab; clear Ac; clear HB; clear h0_ h1_ h2_ h3_ h4_ h5_ h6_ h7_ h8_ h9_ h10_; have Az := n0_; have Ab := n1_; have Ac := n2_; have Ak := n3_; have Cj := n4_; have Aw := n5_; have Aa := n6_; have Am := n7_; have Af := n8_; have An := n9_; have HB := n10_; clear n0_ n1_ n2_ n3_ n4_ n5_ n6_ n7_ n8_ n9_ n10_; have hHeld : Ck.cell? ⟨Aq, 0, none⟩ = some (.int .i64 Ah) ∧ Ck.cell? ⟨Aq, 1, none⟩ = some (.int .i64 Aj) ∧ Ck.cell? ⟨Aq, 2, none⟩ = some (.int .i64 Ar) ∧ Ck.cell? ⟨Aq, 3, none⟩ = some (.slice Bc Ao.length Bd) := hS_; obtain ⟨Cw, Cx, Dq⟩ := Kd.R_slice Az.out
    (first | subst Dq | (injection Dq with f1_ f2_ f3_; have f4_ := f1_.symm; have f5_ := f3_.symm; clear f1_ f2_ f3_; subst f4_; subst f5_))
    refine norm_ (a' := ?_) ?_ ?_
    rotate_left
    ·simp only [putAll, Act.put, List.setIfInBounds_toArray, List.set_cons_zero, List.set_cons_succ]
     rfl
    refine one_ (i := 9) (N := none) #[true, true, true, true, true, true, true, true, true, true] rfl rfl (one_of HT_.out Z37) (by decide) (fun K hK => ?_); have hs28 : Ck.cell? ⟨Ae, 0, none⟩ = some (.int .i64 0) := (blk_cell Ak.out 0).trans rfl; have hfs28 := blk_frozen Ak.out 0; have hns28_0 := Aa.out; have hns28_1 := Af.out; have hms28_0 := Am.out; have hms28_1 := An.out; have hs29 : Ck.cell? ⟨Ae, 1, none⟩ = some (.int .i64 0) := (blk_cell Ak.out 1).trans rfl; have hfs29 := blk_frozen Ak.out 1; have hns29_0 := Aa.out; have hns29_1 := Af.out; have hms29_0 := Am.out; have hms29_1 := An.out; have hs30 : Ck.cell? ⟨Ae, 2, none⟩ = some (.int .i64 0) := (blk_cell Ak.out 2).trans rfl; have hfs30 := blk_frozen Ak.out 2; have hns30_0 := Aa.out; have hns30_1 := Af.out; have hms30_0 := Am.out; have hms30_1 := An.out; have hs31 : Ck.cell? ⟨Ae, 3, none⟩ = some (.slice none 0 0) := (blk_cell Ak.out 3).trans rfl; have hfs31 := blk_frozen Ak.out 3; have hns31_0 := Aa.out; have hns31_1 := Af.out; have hms31_0 := Am.out; have hms31_1 := An.out; refine skip_ (w1 := ?_) (by rfl) rfl ?_ ?_
    rotate_left
    ·go_simp
     rfl
    refine hK.out _ _ ⟨((cell_far (p := ⟨Ae, _, none⟩) Aa.out _).trans (((cell_far (p := ⟨Ae, _, none⟩) Aa.out _).trans (((cell_far (p := ⟨Ae, _, none⟩) Aa.out _).trans (((cell_far (p := ⟨Ae, _, none⟩) Aa.out _).trans (hHeld.1)))))))), ((cell_far (p := ⟨Ae, _, none⟩) Aa.out _).trans (((cell_far (p := ⟨Ae, _, none⟩) Aa.out _).trans (((cell_far (p := ⟨Ae, _, none⟩) Aa.out _).trans (((cell_far (p := ⟨Ae, _, none⟩) Aa.out _).trans (hHeld.2.1)))))))), ((cell_far (p := ⟨Ae, _, none⟩) Aa.out _).trans (((cell_far (p := ⟨Ae, _, none⟩) Aa.out _).trans (((cell_far (p := ⟨Ae, _, none⟩) Aa.out _).trans (((cell_far (p := ⟨Ae, _, none⟩) Aa.out _).trans (hHeld.2.2.1)))))))), ((cell_far (p := ⟨Ae, _, none⟩) Aa.out _).trans (((cell_far (p := ⟨Ae, _, none⟩) Aa.out _).trans (((cell_far (p := ⟨Ae, _, none⟩) Aa.out _).trans (((cell_far (p := ⟨Ae, _, none⟩) Aa.out _).trans (hHeld.2.2.2))))))))⟩ (fun hHeld => ?_); clear hK K; refine done_ (done_of HT_.out Z37) ?_; have Fj := Ax.out; have Fk := Ay.out; have Fl := Aa.out; have Fm := Am.out; obtain ⟨Cy, Cz, C0, C1⟩ := bz4 Ab; obtain ⟨C2, C3, C4, C5⟩ := fz4 Ab
    try go_wp2_with (first | ((with_reducible refine gate_callee (f := 23) rfl ?_); refine glE (some 31) Tryd.func23 #[.slice A0 l0.length c0, .int .i64 Ar] ?_; (with_reducible refine (impl_needs.calls C9 _ _ l0 Ar Bb _ ?side1 ?side2 F3.out).mono ?_); (case side1 => exact Kd.C_below Dx.out Z39); (case side2 => exact Dy.out); rintro e Gg ⟨F5, rfl, Cv, hb⟩; refine ⟨_, rfl, ?_⟩; have Da := aM (Kd.R_lower (Kd.R_new' Cv (Kd.R_lt (by (with_reducible repeat (first | apply Kd.R_alloc | apply Kd.R_drewN | apply Kd.R_drew)); exact (Kd.R_mono (Kd.R_far (p := ⟨Ae, 3, none⟩) (Kd.R_far (p := ⟨Ae, 2, none⟩) (Kd.R_far (p := ⟨Ae, 1, none⟩) (Kd.R_far (p := ⟨Ae, 0, none⟩) (Kd.R_types Az.out Ak.out (by decide)) (fun _ hk => hk.2) (.int .i64 Ah)) (fun _ hk => hk.2) (.int .i64 Aj)) (fun _ hk => hk.2) (.int .i64 0)) (fun _ hk => hk.2) (.slice Cw Bf.length Cx)) (fun _ h_ => h_.1))))) (below_size Z39)); replace Az := aM (Kd.R_elder' (by (with_reducible repeat (first | apply Kd.R_alloc | apply Kd.R_drewN | apply Kd.R_drew)); exact (Kd.R_mono (Kd.R_far (p := ⟨Ae, 3, none⟩) (Kd.R_far (p := ⟨Ae, 2, none⟩) (Kd.R_far (p := ⟨Ae, 1, none⟩) (Kd.R_far (p := ⟨Ae, 0, none⟩) (Kd.R_types Az.out Ak.out (by decide)) (fun _ hk => hk.2) (.int .i64 Ah)) (fun _ hk => hk.2) (.int .i64 Aj)) (fun _ hk => hk.2) (.int .i64 0)) (fun _ hk => hk.2) (.slice Cw Bf.length Cx)) (fun _ h_ => h_.1))) (Kd.R_base Cv) hb); replace Ab := aM (blk_below (g := Aq) (o := .cells #[.int .i64 Ah, .int .i64 Aj, .int .i64 Ar, .slice Bc Ao.length Bd] 27 (0, 0)) (by (with_reducible repeat (first | refine blk_drewN ?_ _ | refine blk_drew ?_ | refine blk_alloc ?_ _)); refine blk_far ?_ Aa.out _; (with_reducible repeat (first | refine blk_drewN ?_ _ | refine blk_drew ?_ | refine blk_alloc ?_ _)); refine blk_far ?_ Aa.out _; (with_reducible repeat (first | refine blk_drewN ?_ _ | refine blk_drew ?_ | refine blk_alloc ?_ _)); refine blk_far ?_ Aa.out _; (with_reducible repeat (first | refine blk_drewN ?_ _ | refine blk_drew ?_ | refine blk_alloc ?_ _)); refine blk_far ?_ Aa.out _; (with_reducible repeat (first | refine blk_drewN ?_ _ | refine blk_drew ?_ | refine blk_alloc ?_ _)); exact Ab.out) hb); replace Ac := aM (blk_below (g := Av) (o := .cells #[.int .i64 0, .int .i64 0, .int .i64 0, .slice none 0 0] 27 (0, 0)) (by (with_reducible repeat (first | refine blk_drewN ?_ _ | refine blk_drew ?_ | refine blk_alloc ?_ _)); refine blk_far ?_ Af.out _; (with_reducible repeat (first | refine blk_drewN ?_ _ | refine blk_drew ?_ | refine blk_alloc ?_ _)); refine blk_far ?_ Af.out _; (with_reducible repeat (first | refine blk_drewN ?_ _ | refine blk_drew ?_ | refine blk_alloc ?_ _)); refine blk_far ?_ Af.out _; (with_reducible repeat (first | refine blk_drewN ?_ _ | refine blk_drew ?_ | refine blk_alloc ?_ _)); refine blk_far ?_ Af.out _; (with_reducible repeat (first | refine blk_drewN ?_ _ | refine blk_drew ?_ | refine blk_alloc ?_ _)); exact Ac.out) hb); replace Ak := aM (blk_below (g := Ae) (o := .cells #[.int .i64 Ah, .int .i64 Aj, .int .i64 0, .slice Cw Bf.length Cx] 27 (0, 0)) (by (with_reducible repeat (first | refine blk_drewN ?_ _ | refine blk_drew ?_ | refine blk_alloc ?_ _)); refine blk_put (cs := #[.int .i64 Ah, .int .i64 Aj, .int .i64 0, .slice none 0 0]) ?_ 3 _ rfl; (with_reducible repeat (first | refine blk_drewN ?_ _ | refine blk_drew ?_ | refine blk_alloc ?_ _)); refine blk_put (cs := #[.int .i64 Ah, .int .i64 Aj, .int .i64 0, .slice none 0 0]) ?_ 2 _ rfl; (with_reducible repeat (first | refine blk_drewN ?_ _ | refine blk_drew ?_ | refine blk_alloc ?_ _)); refine blk_put (cs := #[.int .i64 Ah, .int .i64 0, .int .i64 0, .slice none 0 0]) ?_ 1 _ rfl; (with_reducible repeat (first | refine blk_drewN ?_ _ | refine blk_drew ?_ | refine blk_alloc ?_ _)); refine blk_put (cs := #[.int .i64 0, .int .i64 0, .int .i64 0, .slice none 0 0]) ?_ 0 _ rfl; (with_reducible repeat (first | refine blk_drewN ?_ _ | refine blk_drew ?_ | refine blk_alloc ?_ _)); exact Ak.out) hb); replace HB := hbS Z39 hb; (try clear hb); (try clear Cv); obtain ⟨Dr, Dc, Ey⟩ := Kd.R_slice Da.out; subst Ey))
    go_loopg [33] C9 (fun kq F6 w' => ∃ (Ba : List Int) (Ag : Int) (Ad : List Int) (u304003 : Value), F6 = .int .i64 Ag ∧ Aside0 (impl_DyeYarn.l0 kq Ba (Bb.length : Int) Ag Ah Aj 0 Ad = some (r1, r2, r3, r4, r5)) ∧ Aside0 (kq ≤ C9) ∧ Aside0 (Kd.R (Kd.int .i64) 3 w' w.heap.size (fun k_ => nV k_ u304003) (.slice Dr Bb.length Dc) Ba) ∧ Aside0 (Kd.R (Kd.int .i64) 3 w' w.heap.size (fun k_ => nS k_ Dr Bb.length Dc) u304003 Ad) ∧ Aside0 (w'.heap[Aq]? = some (.cells #[.int .i64 Ah, .int .i64 Aj, .int .i64 Ar, (.slice Bc Ao.length Bd)] 27 (0, 0))) ∧ Aside0 (w'.heap[Av]? = some (.cells #[.int .i64 0, .int .i64 0, .int .i64 0, (.slice none 0 0)] 27 (0, 0))) ∧ Aside0 (w'.heap[Ae]? = some (.cells #[.int .i64 Ah, .int .i64 Aj, .int .i64 0, u304003] 27 (0, 0))) ∧ Aside0 (Below w.heap.size w w'))
    case atStart => exact ⟨(Bb), (0), (Bf), (.slice Cw Bf.length Cx), Z20, H', ⟨Nat.le_refl _⟩, ⟨by (with_reducible repeat (first | apply Kd.R_alloc | apply Kd.R_drewN | apply Kd.R_drew)); exact Kd.R_mono Da.out (fun _ hk => hk.2)⟩, ⟨by (with_reducible repeat (first | apply Kd.R_alloc | apply Kd.R_drewN | apply Kd.R_drew)); exact Kd.R_mono Az.out (fun _ hk => hk.2)⟩, ⟨Z53⟩, ⟨Z64⟩, ⟨Z104⟩, ⟨Z39⟩⟩
    case round =>
     clear H'; (try clear c1); (try clear c2); (try clear p2); (try clear c3); (try clear c6); (try clear c7); (try clear c9); (try clear F1); (try clear F2); (try clear Dk); (try clear Gh); (try clear Gi); (try clear Gj); (try clear Gk); (try clear Gl); (try clear Bn); (try clear Bo); (try clear Bp); (try clear Bq); (try clear Bv); (try clear Bw); (try clear Bx); (try clear Bz); (try clear Cb); (try clear Cc); (try clear Cd); (try clear Ce); (try clear Cn); (try clear Co); (try clear Cp); (try clear Cq); (try clear Cy); (try clear Cz); (try clear C0); (try clear C1); (try clear Br); (try clear Bs); (try clear Bt); (try clear Bu); (try clear B0); (try clear B2); (try clear B6); (try clear Ca); (try clear Cf); (try clear Cg); (try clear Ch); (try clear Ci); (try clear Cr); (try clear Cs); (try clear Ct); (try clear Cu); (try clear C2); (try clear C3); (try clear C4); (try clear C5); (try clear p2); obtain ⟨Ba, Ag, Ad, u304003, rfl, HA, HK2, Bg, Ai, Ab, Ac, Ak, HB⟩ := hrel; have Au := (Kd.R_reads' Bg.out).1; rw [Au] at Bg
     (try simp only [Au])
     (try simp only [Au] at Ab)
     (try simp only [Au] at Ac)
     (try simp only [Au] at Ak)
     (try simp only [Au] at Ai)
     cases gk with
     | zero => exact absurd HA.out (by simp [impl_DyeYarn.l0])
     | succ k2 =>
      have H := HA.out; clear HA
      simp only [impl_DyeYarn.l0] at H
      by_cases Dj : Ag < (Bb.length : Int)
      ·rw [if_pos Dj] at H
       have c37b0 : decide (Ag < (Bb.length : Int)) = true := decide_eq_true Dj
       (try simp only [Au] at c37b0)
       clear Dj
       by_cases Dz : 0 ≤ Ag
       ·rw [if_pos Dz] at H
        have c38b0 : decide (0 ≤ Ag) = true := decide_eq_true Dz; clear Dz
        by_cases D0 : Ag < (Ba.length : Int)
        ·rw [if_pos D0] at H
         have c39b0 : decide (Ag < (Ba.length : Int)) = true := decide_eq_true D0
         (try simp only [Au] at c39b0)
         clear D0
         by_cases D1 : Ag < (Ad.length : Int)
         ·rw [if_pos D1] at H
          have c40b0 : decide (Ag < (Ad.length : Int)) = true := decide_eq_true D1
          (try simp only [Au] at c40b0)
          clear D1; obtain ⟨Dd, Bk⟩ : ∃ y_ : List Int, y_ = (Ad.set (Ag : Int).toNat (wrap64 ((rd Ad Ag) - (rd Ba Ag)))) := ⟨_, rfl⟩
          replace H : (impl_DyeYarn.l0 k2 Ba (Bb.length : Int) (wrap64 (Ag + 1)) Ah Aj 0 Dd) = some (r1, r2, r3, r4, r5) := by first | (rw [Bk]; with_reducible exact H) | (have H2_ := (Option.bind_some _ _).symm.trans H; rw [Bk]; with_reducible exact H2_) | (have H2_ := (Option.bind_some _ _).symm.trans H; with_reducible exact H2_) | with_reducible exact H | (rw [Bk]; exact H) | exact H
          have Ds := Aside0.mk Bk; clear Bk; have H' := Aside0.mk H; clear H; have De : 0 ≤ (Ag : Int) := of_decide_eq_true Z8; have Df : Ag < (Ba.length : Int) := of_decide_eq_true Z8; obtain ⟨ad307, e307, D2⟩ := Kd.at_int (Kd.R_reads' Bg.out).2.2 Ag De Df; cases e307; replace De := eq_true De; replace Df := eq_true Df; have Fo := Am.out; have Fp := Aa.out; have Fq := An.out; have Fr := Af.out; obtain ⟨D3, D4, D5, D6⟩ := bz4 Ak; obtain ⟨D7, D8, D9, Ea⟩ := fz4 Ak; obtain ⟨F7, Cl, Ez⟩ := Kd.R_slice Ai.out; subst Ez; have Dg : 0 ≤ (Ag : Int) := of_decide_eq_true Z8; have Dh : Ag < (Ad.length : Int) := of_decide_eq_true Z8; obtain ⟨ad308, e308, C6⟩ := Kd.at_int (Kd.R_reads' Ai.out).2.2 Ag Dg Dh; cases e308; replace Dg := eq_true Dg; replace Dh := eq_true Dh; have E0 : 0 ≤ (Ag : Int) := of_decide_eq_true Z8; have E2 : (Ag : Int) < ((Ad.length : Int) : Int) := of_decide_eq_true Z8; obtain ⟨Bl, F8, Dt, Du, gl41, cl41, HG41⟩ := Kd.R_form Ai.out (by omega)
          (first | cases Dt | (injection Dt with ea_ en_ ec_; (first | subst ea_ | (injection ea_ with ea_; subst ea_)); subst ec_; clear en_))
          have E3 := Aside0.mk Du; have F9 := Aside0.mk HG41; clear Du gl41 HG41
          (first | simp only [add_plain] at C6 | skip)
          obtain ⟨E4, E5⟩ := Kd.R_celln 0 Ai.out (Ag : Int) E0 E2; replace E0 := eq_true E0; replace E2 := eq_true E2; have Di := Kd.R_putg Ai.out (Ag : Int) (wrap64 ((rd Ad Ag) - (rd Ba Ag)))
          go_wp2_with (first | ((with_reducible refine gate_store (t := 3) (p := 45) rfl ?_); refine store_event (t := 3) (p := 45) (v := ?vo_w47) (w1 := (wr.setCell ⟨Bl, (Ag : Int).toNat, none⟩ (.int .i64 (wrap64 ((rd Ad Ag) - (rd Ba Ag)))))) ?hg ?ho ?hn ?hr ?_; (case ho => rfl); (case hg => rfl); (case hn => rfl); (case hr => first | (go_simp; done) | (go_simp; rfl)); intro E6 hw; have hg : wr.grownBy E6 (some Bl) := (by rw [hw]; exact Di.2); have hp_ : Kd.R (Kd.int .i64) 3 E6 w.heap.size (fun k_ => some k_ ≠ (.slice (some ad307) Ba.length Dc : Value).ownBlock) (.slice (some ⟨Bl, 0, none⟩) Ad.length Cl) Dd := (by rw [hw, Ds.out]; exact Di.1); clear Di; replace Bg := aM (Kd.R_after (v := (.slice (some ⟨Bl, 0, none⟩) Ad.length Cl)) (v1 := (.slice (some ⟨Bl, 0, none⟩) Ad.length Cl)) (ok := (fun _ => True)) (by (with_reducible repeat (first | apply Kd.R_alloc | apply Kd.R_drewN | apply Kd.R_drew)); exact Kd.R_mono Bg.out (fun _ hk => ⟨trivial, hk⟩)) hg (.inl rfl)); replace Ab := aM (blk_grown (g := Aq) (o := .cells #[.int .i64 Ah, .int .i64 Aj, .int .i64 Ar, .slice Bc Ao.length Bd] 27 (0, 0)) Z53 hg (Kd.R_ne Ai.out Ab.out (by decide))); replace Ac := aM (blk_grown (g := Av) (o := .cells #[.int .i64 0, .int .i64 0, .int .i64 0, .slice none 0 0] 27 (0, 0)) Z64 hg (Kd.R_ne Ai.out Ac.out (by decide))); replace Ak := aM (blk_grown (g := Ae) (o := .cells #[.int .i64 Ah, .int .i64 Aj, .int .i64 0, .slice (some ⟨Bl, 0, none⟩) Ad.length Cl] 27 (0, 0)) Z104 hg (Kd.R_ne Ai.out Ak.out (by decide))); replace Ai := aM (hp_); replace HB := aM ((by rw [hw]; exact below_set (HB.out) E3.out : Below w.heap.size w E6)); clear hg hw hp_))
          (try simp only [← Au])
          go_roundg k2
          case measure => have := HJ2.out; have := HK2.out; omega
          case rel => exact ⟨(Ba), (wrap64 (Ag + 1)), (Dd), (.slice (some ⟨Bl, 0, none⟩) Ad.length Cl), Z20, H', ⟨Z147⟩, ⟨by (try simp only [Au]); (with_reducible repeat (first | apply Kd.R_alloc | apply Kd.R_drewN | apply Kd.R_drew)); exact Kd.R_mono Bg.out (fun _ hk => hk.2)⟩, ⟨by (try simp only [Au]); (with_reducible repeat (first | apply Kd.R_alloc | apply Kd.R_drewN | apply Kd.R_drew)); exact Ai.out⟩, ⟨by (try simp only [Au]); (with_reducible repeat (first | refine blk_drewN ?_ _ | refine blk_drew ?_ | refine blk_alloc ?_ _)); exact Ab.out⟩, ⟨by (try simp only [Au]); (with_reducible repeat (first | refine blk_drewN ?_ _ | refine blk_drew ?_ | refine blk_alloc ?_ _)); exact Ac.out⟩, ⟨by (try simp only [Au]); (with_reducible repeat (first | refine blk_drewN ?_ _ | refine blk_drew ?_ | refine blk_alloc ?_ _)); exact Ak.out⟩, ⟨Z39⟩⟩
         ·rw [if_neg D1] at H
          exact absurd H (by simp)
        ·rw [if_neg D0] at H
         exact absurd H (by simp)
       ·rw [if_neg Dz] at H
        exact absurd H (by simp)
      ·rw [if_neg Dj] at H
       have c37b0 : decide (Ag < (Bb.length : Int)) = false := decide_eq_false Dj
       (try simp only [Au] at c37b0)
       clear Dj
       simp only [Option.some.injEq, Prod.mk.injEq] at H
       obtain ⟨rfl, rfl, rfl, rfl, rfl⟩ := H; have Fs := Am.out; have Ft := Aa.out; have Fu := An.out; have Fv := Af.out; obtain ⟨Eb, Ec, Ed, Ee⟩ := bz4 Ak; obtain ⟨Ef, Eg, Eh, Ei⟩ := fz4 Ak; have Fw := Ay.out; have Fx := Ax.out; obtain ⟨Ej, Ek, El, Em⟩ := bz4 Ac; obtain ⟨En, Eo, Ep, Er⟩ := fz4 Ac; obtain ⟨Dv, Dw, E7⟩ := Kd.R_slice Ai.out; subst E7
       go_wp2
       refine bodyPost_ret (results_ct rfl _ _ Av 27 #[.int .i64 Ah, .int .i64 Aj, .int .i64 0, .slice Dv Ad.length Dw] (0, 0) _ rfl (by (with_reducible repeat (first | refine blk_drewN ?_ _ | refine blk_drew ?_ | refine blk_alloc ?_ _)); refine blk_put (cs := #[.int .i64 Ah, .int .i64 Aj, .int .i64 0, .slice none 0 0]) ?_ 3 _ rfl; (with_reducible repeat (first | refine blk_drewN ?_ _ | refine blk_drew ?_ | refine blk_alloc ?_ _)); refine blk_put (cs := #[.int .i64 Ah, .int .i64 Aj, .int .i64 0, .slice none 0 0]) ?_ 2 _ rfl; (with_reducible repeat (first | refine blk_drewN ?_ _ | refine blk_drew ?_ | refine blk_alloc ?_ _)); refine blk_put (cs := #[.int .i64 Ah, .int .i64 0, .int .i64 0, .slice none 0 0]) ?_ 1 _ rfl; (with_reducible repeat (first | refine blk_drewN ?_ _ | refine blk_drew ?_ | refine blk_alloc ?_ _)); refine blk_put (cs := #[.int .i64 0, .int .i64 0, .int .i64 0, .slice none 0 0]) ?_ 0 _ rfl; (with_reducible repeat (first | refine blk_drewN ?_ _ | refine blk_drew ?_ | refine blk_alloc ?_ _)); exact Ac.out) Tryd.underlying27 rfl Z37) rfl ?_
       exact ⟨_, Z6, by (with_reducible repeat (first | apply Kd.R_alloc | apply Kd.R_drewN | apply Kd.R_drew)); exact Kd.R_mono (Kd.R_far (p := ⟨Av, 3, none⟩) (Kd.R_far (p := ⟨Av, 2, none⟩) (Kd.R_far (p := ⟨Av, 1, none⟩) (Kd.R_far (p := ⟨Av, 0, none⟩) (Kd.R_types Ai.out Ac.out (by decide)) (fun _ hk => hk.2) (.int .i64 Ah)) (fun _ hk => hk.2) (.int .i64 Aj)) (fun _ hk => hk.2) (.int .i64 0)) (fun _ hk => hk.2) (.slice Dv Ad.length Dw)) (fun _ hk => trivial), Z39⟩
def spec_l1In.f (a0 : Int) (a1 : Int) (a2 : Int) : Option (Bool) := if a0 ≥ a1 then (some (decide (a0 ≤ a2))) else (some false)
theorem spec_l1In.calls (a0 : Int) (a1 : Int) (a2 : Int) (r : Bool) (w : World) (h : spec_l1In.f a0 a1 a2 = some r) :
  Calls Tryd.prog 44 #[.int .i64 a0, .int .i64 a1, .int .i64 a2] w fun e w' => e = .returned (.bool r) ∧ Drawn0 w w' := by
 have H : (if a0 ≥ a1 then (some (decide (a0 ≤ a2))) else (some false)) = some r := h; clear h
 by_cases c4 : a0 ≥ a1
 ·rw [if_pos c4] at H
  have c4b0 : decide (a1 ≤ a0) = true := decide_eq_true c4; clear c4; obtain rfl := Option.some.inj H
  go_enter Tryd.func44, Tryd.ntmps44
  go_wp2
  go_ret
  exact ⟨Z20, Z75⟩
 ·rw [if_neg c4] at H
  have c4b0 : decide (a1 ≤ a0) = false := decide_eq_false c4; clear c4; obtain rfl := Option.some.inj H
  go_enter Tryd.func44, Tryd.ntmps44
  go_wp2
  go_ret
  exact ⟨Z20, Z75⟩
theorem spec_l1In.eq (a b c : Int) : spec_l1In.f a b c = some (rng a b c) := by
 unfold spec_l1In.f rng; by_cases h : b ≤ a <;> simp [h]
def spec_l2Word.l0 : Nat → ByteArray → Int → Option (Bool)
 | 0, _, _ => none
 | k + 1, x0, x3 => if x3 < (x0.size : Int) then (if 0 ≤ x3 then (if (bt x0 x3) < 97 then (some false) else (if (bt x0 x3) > 122 then (some false) else (spec_l2Word.l0 k x0 (wrap64 (x3 + 1))))) else (none)) else ((spec_l1In.f (x0.size : Int) 1 10).bind fun t310 => (some t310))
def spec_l2Word.f (k : Nat) (a0 : ByteArray) : Option (Bool) := spec_l2Word.l0 k a0 0
theorem spec_l2Word.calls (k : Nat) (a0 : ByteArray) (r : Bool) (w : World) (h : spec_l2Word.f k a0 = some r) :
  Calls Tryd.prog 50 #[.string a0] w fun e w' => e = .returned (.bool r) ∧ Drawn0 w w' := by
 have H : (spec_l2Word.l0 k a0 0) = some r := h; clear h; have H' := Aside0.mk H; clear H
 go_enter Tryd.func50, Tryd.ntmps50
 go_wp2
 go_loopg [3] k (fun kq v3 w' => ∃ (Aa : Int), v3 = .int .i64 Aa ∧ Aside0 (spec_l2Word.l0 kq a0 Aa = some r) ∧ Aside0 (kq ≤ k) ∧ Drawn0 w w')
 case atStart => exact ⟨(0), Z20, H', ⟨Nat.le_refl _⟩, Z75⟩
 case round =>
  clear H'; obtain ⟨Aa, rfl, HA, HK1, ⟨m1, rfl⟩⟩ := hrel; cases gk with
  | zero => exact absurd HA.out (by simp [spec_l2Word.l0])
  | succ k1 =>
   have H := HA.out; clear HA
   simp only [spec_l2Word.l0] at H
   by_cases c2 : Aa < (a0.size : Int)
   ·rw [if_pos c2] at H
    have c2b0 : decide (Aa < (a0.size : Int)) = true := decide_eq_true c2; clear c2
    by_cases c3 : 0 ≤ Aa
    ·rw [if_pos c3] at H
     have c3b0 : decide (0 ≤ Aa) = true := decide_eq_true c3; clear c3
     by_cases c5 : (bt a0 Aa) < 97
     ·rw [if_pos c5] at H
      have c5b0 : decide ((bt a0 Aa) < 97) = true := decide_eq_true c5; clear c5; obtain rfl := Option.some.inj H; have p4 : 0 ≤ (Aa : Int) := of_decide_eq_true Z8; have q4 : Aa < (a0.size : Int) := of_decide_eq_true Z8; have Ac := bt_at a0 Aa; replace p4 := eq_true p4; replace q4 := eq_true q4
      go_wp2
      go_ret
      exact ⟨Z20, Z75⟩
     ·rw [if_neg c5] at H
      have c5b0 : decide ((bt a0 Aa) < 97) = false := decide_eq_false c5; clear c5
      by_cases c7 : (bt a0 Aa) > 122
      ·rw [if_pos c7] at H
       have c7b0 : decide (122 < (bt a0 Aa)) = true := decide_eq_true c7; clear c7; obtain rfl := Option.some.inj H; have p4 : 0 ≤ (Aa : Int) := of_decide_eq_true Z8; have q4 : Aa < (a0.size : Int) := of_decide_eq_true Z8; have Ac := bt_at a0 Aa; replace p4 := eq_true p4; replace q4 := eq_true q4; have p6 : 0 ≤ (Aa : Int) := of_decide_eq_true Z8; have q6 : Aa < (a0.size : Int) := of_decide_eq_true Z8; have Ae := bt_at a0 Aa; replace p6 := eq_true p6; replace q6 := eq_true q6
       go_wp2
       go_ret
       exact ⟨Z20, Z75⟩
      ·rw [if_neg c7] at H
       have c7b0 : decide (122 < (bt a0 Aa)) = false := decide_eq_false c7; clear c7; have H' := Aside0.mk H; clear H; have p4 : 0 ≤ (Aa : Int) := of_decide_eq_true Z8; have q4 : Aa < (a0.size : Int) := of_decide_eq_true Z8; have Ac := bt_at a0 Aa; replace p4 := eq_true p4; replace q4 := eq_true q4; have p6 : 0 ≤ (Aa : Int) := of_decide_eq_true Z8; have q6 : Aa < (a0.size : Int) := of_decide_eq_true Z8; have Ae := bt_at a0 Aa; replace p6 := eq_true p6; replace q6 := eq_true q6
       go_wp2
       go_roundg k1
       case measure => have := HK1.out; omega
       case rel => exact ⟨(wrap64 (Aa + 1)), Z20, H', ⟨Z135⟩, Z75⟩
    ·rw [if_neg c3] at H
     exact absurd H (by simp)
   ·rw [if_neg c2] at H
    have c2b0 : decide (Aa < (a0.size : Int)) = false := decide_eq_false c2; clear c2; replace H := Option.bind_eq_some_iff.mp H; obtain ⟨Ab, Ad, H⟩ := H; replace H : (some Ab) = some r := H; have A8 := Aside0.mk Ad; clear Ad; obtain rfl := Option.some.inj H
    go_wp2_with (first | ((with_reducible refine gate_callee (f := 44) rfl ?_); refine glE (some 22) Tryd.func44 #[.int .i64 (a0.size : Int), .int .i64 1, .int .i64 10] ?_; (with_reducible refine (spec_l1In.calls (a0.size : Int) 1 10 Ab _ A8.out).mono ?_); rintro e w' ⟨rfl, ⟨nd, rfl⟩⟩; refine ⟨_, rfl, ?_⟩))
    go_ret
    exact ⟨Z20, Z75⟩
end Go.Proofs.YtfeighajmkcjfaaDoor.H
