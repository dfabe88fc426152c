-- by wip/pack.py of this repo
import Derived.Test.YtnkecgldapagcaaZ06Hx0
import Derived.Test.YtnkecgldapagcaaZ06Hx2
import Derived.Test.YtnkecgldapagcaaZ06WLast
import Derived.Test.YtnkecgldapagcaaZ06WMore
import Derived.Test.YtnkecgldapagcaaZ06WWords
import Derived.Test.YtnkecgldapagcaaZ06Short
namespace Go.Proofs.Ytnkecgldapagcaa.H
open Go.RowKit Go.Proofs.YtnkecgldapagcaaW.PrintWords Go.Proofs.YtnkecgldapagcaaW.PrintLast Go.Proofs.YtnkecgldapagcaaW.PrintMore
attribute [local go_sem] max2_int min2_int max_two min_two max_three min_three max_four min_four
set_option maxHeartbeats 8000000
set_option maxRecDepth 100000
set_option linter.unusedVariables false
set_option linter.unusedSimpArgs false
def spec_l10Good.f (a0_0 : Int) (a0_1 : Int) (a0_2 : Int) (a0_3 : Int) : Option (Bool) := (spec_l1In.f a0_0 1 30).bind fun t111 => (if t111 = true then ((spec_l1In.f a0_1 1 40).bind fun t112 => (if t112 = true then ((spec_l1In.f a0_2 0 100).bind fun t113 => (if t113 = true then ((spec_l1In.f a0_3 1 1000).bind fun t114 => (some t114)) else (some false))) else (some false))) else (some false))
theorem spec_l10Good.calls (Ac : Int) (Af : Int) (Ae : Int) (Ad : Int) (r : Bool) (w : World) (h : spec_l10Good.f Ac Af Ae Ad = some r) :
  Calls Try.prog 48 #[.agg #[.int .i64 Ac, .int .i64 Af, .int .i64 Ae, .int .i64 Ad]] w fun e w' => e = .returned (.bool r) ∧ Below w.heap.size w w' := by
 have hu32 := Try.underlying32; have HB := aM (Below.refl w.heap.size w); have H : ((spec_l1In.f Ac 1 30).bind fun Al => (if Al = true then ((spec_l1In.f Af 1 40).bind fun Ai => (if Ai = true then ((spec_l1In.f Ae 0 100).bind fun Ag => (if Ag = true then ((spec_l1In.f Ad 1 1000).bind fun Ab => (some Ab)) else (some false))) else (some false))) else (some false))) = some r := h; clear h; replace H := Option.bind_eq_some_iff.mp H; obtain ⟨Al, Bv, H⟩ := H; replace H : (if Al = true then ((spec_l1In.f Af 1 40).bind fun Ai => (if Ai = true then ((spec_l1In.f Ae 0 100).bind fun Ag => (if Ag = true then ((spec_l1In.f Ad 1 1000).bind fun Ab => (some Ab)) else (some false))) else (some false))) else (some false)) = some r := H; have A2 := Aside0.mk Bv; clear Bv
 by_cases c3 : Al = true
 ·subst c3
  have H1 : ((spec_l1In.f Af 1 40).bind fun Ai => (if Ai = true then ((spec_l1In.f Ae 0 100).bind fun Ag => (if Ag = true then ((spec_l1In.f Ad 1 1000).bind fun Ab => (some Ab)) else (some false))) else (some false))) = some r := by rw [if_pos rfl] at H; exact H
  clear H; have H := H1; clear H1; replace H := Option.bind_eq_some_iff.mp H; obtain ⟨Ai, Bw, H⟩ := H; replace H : (if Ai = true then ((spec_l1In.f Ae 0 100).bind fun Ag => (if Ag = true then ((spec_l1In.f Ad 1 1000).bind fun Ab => (some Ab)) else (some false))) else (some false)) = some r := H; have A4 := Aside0.mk Bw; clear Bw
  by_cases c5 : Ai = true
  ·subst c5
   have H1 : ((spec_l1In.f Ae 0 100).bind fun Ag => (if Ag = true then ((spec_l1In.f Ad 1 1000).bind fun Ab => (some Ab)) else (some false))) = some r := by rw [if_pos rfl] at H; exact H
   clear H; have H := H1; clear H1; replace H := Option.bind_eq_some_iff.mp H; obtain ⟨Ag, Bx, H⟩ := H; replace H : (if Ag = true then ((spec_l1In.f Ad 1 1000).bind fun Ab => (some Ab)) else (some false)) = some r := H; have A6 := Aside0.mk Bx; clear Bx
   by_cases c7 : Ag = true
   ·subst c7
    have H1 : ((spec_l1In.f Ad 1 1000).bind fun Ab => (some Ab)) = some r := by rw [if_pos rfl] at H; exact H
    clear H; have H := H1; clear H1; replace H := Option.bind_eq_some_iff.mp H; obtain ⟨Ab, Bz, H⟩ := H; replace H : (some Ab) = some r := H; have A8 := Aside0.mk Bz; clear Bz; obtain rfl := Option.some.inj H
    go_enter Try.func48, Try.ntmps48
    go_wp2_with (first | ((with_reducible refine gate_dst (N := 1) rfl ?_); refine bxE 1 #[.int .i64 Ac, .int .i64 Af, .int .i64 Ae, .int .i64 Ad] 32 ?_; intro Aj hg w9 hbox hb; have Aa := aM (hbox); have Ak := gwS hg Z2; have Ah := gwS hg Z2; replace HB := hbS Z2 hb; clear hb hbox hg; obtain ⟨Am, An, Ao, Ap⟩ := bz4 Aa; obtain ⟨Aq, Ar, Au, Av⟩ := fz4 Aa) | ((with_reducible refine gate_callee (f := 68) rfl ?_); refine glE (some 5) Try.func68 #[.int .i64 Ac, .int .i64 1, .int .i64 30] ?_; (with_reducible refine (spec_l1In.calls Ac 1 30 true _ A2.out).mono ?_); rintro e w' ⟨rfl, ⟨nd, rfl⟩⟩; refine ⟨_, rfl, ?_⟩) | (go_at_call 68; (with_reducible refine (spec_l1In.calls Af 1 40 true _ A4.out).mono ?_); rintro e w' ⟨rfl, ⟨nd, rfl⟩⟩) | (go_at_call 68; (with_reducible refine (spec_l1In.calls Ae 0 100 true _ A6.out).mono ?_); rintro e w' ⟨rfl, ⟨nd, rfl⟩⟩) | (go_at_call 68; (with_reducible refine (spec_l1In.calls Ad 1 1000 Ab _ A8.out).mono ?_); rintro e w' ⟨rfl, ⟨nd, rfl⟩⟩))
    go_ret
    exact ⟨Z8, Z33⟩
   ·replace c7 := Bool.eq_false_iff.mpr c7
    subst c7
    have H1 : (some false) = some r := by rw [if_neg (show ¬ (false = true) by decide)] at H; exact H
    clear H; have H := H1; clear H1; obtain rfl := Option.some.inj H
    go_enter Try.func48, Try.ntmps48
    go_wp2_with (first | ((with_reducible refine gate_dst (N := 1) rfl ?_); refine bxE 1 #[.int .i64 Ac, .int .i64 Af, .int .i64 Ae, .int .i64 Ad] 32 ?_; intro Aj hg B0 hbox hb; have Aa := aM (hbox); have Ak := gwS hg Z2; have Ah := gwS hg Z2; replace HB := hbS Z2 hb; clear hb hbox hg; obtain ⟨Aw, Ax, Ay, Az⟩ := bz4 Aa; obtain ⟨Ba, Bb, Bc, Bd⟩ := fz4 Aa) | ((with_reducible refine gate_callee (f := 68) rfl ?_); refine glE (some 5) Try.func68 #[.int .i64 Ac, .int .i64 1, .int .i64 30] ?_; (with_reducible refine (spec_l1In.calls Ac 1 30 true _ A2.out).mono ?_); rintro e w' ⟨rfl, ⟨nd, rfl⟩⟩; refine ⟨_, rfl, ?_⟩) | (go_at_call 68; (with_reducible refine (spec_l1In.calls Af 1 40 true _ A4.out).mono ?_); rintro e w' ⟨rfl, ⟨nd, rfl⟩⟩) | (go_at_call 68; (with_reducible refine (spec_l1In.calls Ae 0 100 false _ A6.out).mono ?_); rintro e w' ⟨rfl, ⟨nd, rfl⟩⟩))
    go_ret
    exact ⟨Z8, Z33⟩
  ·replace c5 := Bool.eq_false_iff.mpr c5
   subst c5
   have H1 : (some false) = some r := by rw [if_neg (show ¬ (false = true) by decide)] at H; exact H
   clear H; have H := H1; clear H1; obtain rfl := Option.some.inj H
   go_enter Try.func48, Try.ntmps48
   go_wp2_with (first | ((with_reducible refine gate_dst (N := 1) rfl ?_); refine bxE 1 #[.int .i64 Ac, .int .i64 Af, .int .i64 Ae, .int .i64 Ad] 32 ?_; intro Aj hg B1 hbox hb; have Aa := aM (hbox); have Ak := gwS hg Z2; have Ah := gwS hg Z2; replace HB := hbS Z2 hb; clear hb hbox hg; obtain ⟨Bf, Bg, Bh, Bi⟩ := bz4 Aa; obtain ⟨Bj, Bk, Bl, Bm⟩ := fz4 Aa) | ((with_reducible refine gate_callee (f := 68) rfl ?_); refine glE (some 5) Try.func68 #[.int .i64 Ac, .int .i64 1, .int .i64 30] ?_; (with_reducible refine (spec_l1In.calls Ac 1 30 true _ A2.out).mono ?_); rintro e w' ⟨rfl, ⟨nd, rfl⟩⟩; refine ⟨_, rfl, ?_⟩) | (go_at_call 68; (with_reducible refine (spec_l1In.calls Af 1 40 false _ A4.out).mono ?_); rintro e w' ⟨rfl, ⟨nd, rfl⟩⟩))
   go_ret
   exact ⟨Z8, Z33⟩
 ·replace c3 := Bool.eq_false_iff.mpr c3
  subst c3
  have H1 : (some false) = some r := by rw [if_neg (show ¬ (false = true) by decide)] at H; exact H
  clear H; have H := H1; clear H1; obtain rfl := Option.some.inj H
  go_enter Try.func48, Try.ntmps48
  go_wp2_with (first | ((with_reducible refine gate_dst (N := 1) rfl ?_); refine bxE 1 #[.int .i64 Ac, .int .i64 Af, .int .i64 Ae, .int .i64 Ad] 32 ?_; intro Aj hg B2 hbox hb; have Aa := aM (hbox); have Ak := gwS hg Z2; have Ah := gwS hg Z2; replace HB := hbS Z2 hb; clear hb hbox hg; obtain ⟨Bn, Bo, Bp, Bq⟩ := bz4 Aa; obtain ⟨Br, Bs, Bt, Bu⟩ := fz4 Aa) | ((with_reducible refine gate_callee (f := 68) rfl ?_); refine glE (some 5) Try.func68 #[.int .i64 Ac, .int .i64 1, .int .i64 30] ?_; (with_reducible refine (spec_l1In.calls Ac 1 30 false _ A2.out).mono ?_); rintro e w' ⟨rfl, ⟨nd, rfl⟩⟩; refine ⟨_, rfl, ?_⟩))
  go_ret
  exact ⟨Z8, Z33⟩
def spec_l10For.f (a0_0 : Int) (a0_1 : Int) (a0_2 : Int) (a0_3 : Int) (a1 : Int) : Option (Int) := some (wrap64 (Int.tdiv (wrap64 ((wrap64 ((wrap64 (a1 * (wrap64 ((wrap64 (2 * a0_0)) + a0_1)))) * (wrap64 (100 + a0_2)))) + 99)) 100))
theorem spec_l10For.calls (Aa : Int) (Ab : Int) (Ac : Int) (Ae : Int) (a1 : Int) (r : Int) (w : World) (h : spec_l10For.f Aa Ab Ac Ae a1 = some r) :
  Calls Try.prog 50 #[.agg #[.int .i64 Aa, .int .i64 Ab, .int .i64 Ac, .int .i64 Ae], .int .i64 a1] w fun e w' => e = .returned (.int .i64 r) ∧ Below w.heap.size w w' := by
 have hu32 := Try.underlying32; have HB := aM (Below.refl w.heap.size w); have H : (some (wrap64 (Int.tdiv (wrap64 ((wrap64 ((wrap64 (a1 * (wrap64 ((wrap64 (2 * Aa)) + Ab)))) * (wrap64 (100 + Ac)))) + 99)) 100))) = some r := h; clear h; obtain rfl := Option.some.inj H
 go_enter Try.func50, Try.ntmps50
 go_wp2_with (first | ((with_reducible refine gate_dst (N := 2) rfl ?_); refine bxE 2 #[.int .i64 Aa, .int .i64 Ab, .int .i64 Ac, .int .i64 Ae] 32 ?_; intro Ao hg w3 hbox hb; have Ad := aM (hbox); have Ap := gwS hg Z2; have Af := gwS hg Z2; replace HB := hbS Z2 hb; clear hb hbox hg; obtain ⟨Ag, Ah, Ai, Aj⟩ := bz4 Ad; obtain ⟨Ak, Al, Am, An⟩ := fz4 Ad))
 go_ret
 exact ⟨Z8, Z16⟩
def impl_IsYarn.f (a0_0 : Int) (a0_1 : Int) (a0_2 : Int) (a0_3 : Int) : Option (Bool) := (impl_in.f a0_0 1 30).bind fun t162 => (if t162 = true then ((impl_in.f a0_1 1 40).bind fun t163 => (if t163 = true then ((impl_in.f a0_2 0 100).bind fun t164 => (if t164 = true then ((impl_in.f a0_3 1 1000).bind fun t165 => (some t165)) else (some false))) else (some false))) else (some false))
theorem impl_IsYarn.calls (Ac : Int) (Af : Int) (Ae : Int) (Ad : Int) (r : Bool) (w : World) (h : impl_IsYarn.f Ac Af Ae Ad = some r) :
  Calls Try.prog 36 #[.agg #[.int .i64 Ac, .int .i64 Af, .int .i64 Ae, .int .i64 Ad]] w fun e w' => e = .returned (.bool r) ∧ Below w.heap.size w w' := by
 have hu32 := Try.underlying32; have HB := aM (Below.refl w.heap.size w); have H : ((impl_in.f Ac 1 30).bind fun Al => (if Al = true then ((impl_in.f Af 1 40).bind fun Ai => (if Ai = true then ((impl_in.f Ae 0 100).bind fun Ag => (if Ag = true then ((impl_in.f Ad 1 1000).bind fun Ab => (some Ab)) else (some false))) else (some false))) else (some false))) = some r := h; clear h; replace H := Option.bind_eq_some_iff.mp H; obtain ⟨Al, Bv, H⟩ := H; replace H : (if Al = true then ((impl_in.f Af 1 40).bind fun Ai => (if Ai = true then ((impl_in.f Ae 0 100).bind fun Ag => (if Ag = true then ((impl_in.f Ad 1 1000).bind fun Ab => (some Ab)) else (some false))) else (some false))) else (some false)) = some r := H; have A2 := Aside0.mk Bv; clear Bv
 by_cases c3 : Al = true
 ·subst c3
  have H1 : ((impl_in.f Af 1 40).bind fun Ai => (if Ai = true then ((impl_in.f Ae 0 100).bind fun Ag => (if Ag = true then ((impl_in.f Ad 1 1000).bind fun Ab => (some Ab)) else (some false))) else (some false))) = some r := by rw [if_pos rfl] at H; exact H
  clear H; have H := H1; clear H1; replace H := Option.bind_eq_some_iff.mp H; obtain ⟨Ai, Bw, H⟩ := H; replace H : (if Ai = true then ((impl_in.f Ae 0 100).bind fun Ag => (if Ag = true then ((impl_in.f Ad 1 1000).bind fun Ab => (some Ab)) else (some false))) else (some false)) = some r := H; have A4 := Aside0.mk Bw; clear Bw
  by_cases c5 : Ai = true
  ·subst c5
   have H1 : ((impl_in.f Ae 0 100).bind fun Ag => (if Ag = true then ((impl_in.f Ad 1 1000).bind fun Ab => (some Ab)) else (some false))) = some r := by rw [if_pos rfl] at H; exact H
   clear H; have H := H1; clear H1; replace H := Option.bind_eq_some_iff.mp H; obtain ⟨Ag, Bx, H⟩ := H; replace H : (if Ag = true then ((impl_in.f Ad 1 1000).bind fun Ab => (some Ab)) else (some false)) = some r := H; have A6 := Aside0.mk Bx; clear Bx
   by_cases c7 : Ag = true
   ·subst c7
    have H1 : ((impl_in.f Ad 1 1000).bind fun Ab => (some Ab)) = some r := by rw [if_pos rfl] at H; exact H
    clear H; have H := H1; clear H1; replace H := Option.bind_eq_some_iff.mp H; obtain ⟨Ab, Bz, H⟩ := H; replace H : (some Ab) = some r := H; have A8 := Aside0.mk Bz; clear Bz; obtain rfl := Option.some.inj H
    go_enter Try.func36, Try.ntmps36
    go_wp2_with (first | ((with_reducible refine gate_dst (N := 1) rfl ?_); refine bxE 1 #[.int .i64 Ac, .int .i64 Af, .int .i64 Ae, .int .i64 Ad] 32 ?_; intro Aj hg w9 hbox hb; have Aa := aM (hbox); have Ak := gwS hg Z2; have Ah := gwS hg Z2; replace HB := hbS Z2 hb; clear hb hbox hg; obtain ⟨Am, An, Ao, Ap⟩ := bz4 Aa; obtain ⟨Aq, Ar, Au, Av⟩ := fz4 Aa) | ((with_reducible refine gate_callee (f := 66) rfl ?_); refine glE (some 5) Try.func66 #[.int .i64 Ac, .int .i64 1, .int .i64 30] ?_; (with_reducible refine (impl_in.calls Ac 1 30 true _ A2.out).mono ?_); rintro e w' ⟨rfl, ⟨nd, rfl⟩⟩; refine ⟨_, rfl, ?_⟩) | (go_at_call 66; (with_reducible refine (impl_in.calls Af 1 40 true _ A4.out).mono ?_); rintro e w' ⟨rfl, ⟨nd, rfl⟩⟩) | (go_at_call 66; (with_reducible refine (impl_in.calls Ae 0 100 true _ A6.out).mono ?_); rintro e w' ⟨rfl, ⟨nd, rfl⟩⟩) | (go_at_call 66; (with_reducible refine (impl_in.calls Ad 1 1000 Ab _ A8.out).mono ?_); rintro e w' ⟨rfl, ⟨nd, rfl⟩⟩))
    go_ret
    exact ⟨Z8, Z33⟩
   ·replace c7 := Bool.eq_false_iff.mpr c7
    subst c7
    have H1 : (some false) = some r := by rw [if_neg (show ¬ (false = true) by decide)] at H; exact H
    clear H; have H := H1; clear H1; obtain rfl := Option.some.inj H
    go_enter Try.func36, Try.ntmps36
    go_wp2_with (first | ((with_reducible refine gate_dst (N := 1) rfl ?_); refine bxE 1 #[.int .i64 Ac, .int .i64 Af, .int .i64 Ae, .int .i64 Ad] 32 ?_; intro Aj hg B0 hbox hb; have Aa := aM (hbox); have Ak := gwS hg Z2; have Ah := gwS hg Z2; replace HB := hbS Z2 hb; clear hb hbox hg; obtain ⟨Aw, Ax, Ay, Az⟩ := bz4 Aa; obtain ⟨Ba, Bb, Bc, Bd⟩ := fz4 Aa) | ((with_reducible refine gate_callee (f := 66) rfl ?_); refine glE (some 5) Try.func66 #[.int .i64 Ac, .int .i64 1, .int .i64 30] ?_; (with_reducible refine (impl_in.calls Ac 1 30 true _ A2.out).mono ?_); rintro e w' ⟨rfl, ⟨nd, rfl⟩⟩; refine ⟨_, rfl, ?_⟩) | (go_at_call 66; (with_reducible refine (impl_in.calls Af 1 40 true _ A4.out).mono ?_); rintro e w' ⟨rfl, ⟨nd, rfl⟩⟩) | (go_at_call 66; (with_reducible refine (impl_in.calls Ae 0 100 false _ A6.out).mono ?_); rintro e w' ⟨rfl, ⟨nd, rfl⟩⟩))
    go_ret
    exact ⟨Z8, Z33⟩
  ·replace c5 := Bool.eq_false_iff.mpr c5
   subst c5
   have H1 : (some false) = some r := by rw [if_neg (show ¬ (false = true) by decide)] at H; exact H
   clear H; have H := H1; clear H1; obtain rfl := Option.some.inj H
   go_enter Try.func36, Try.ntmps36
   go_wp2_with (first | ((with_reducible refine gate_dst (N := 1) rfl ?_); refine bxE 1 #[.int .i64 Ac, .int .i64 Af, .int .i64 Ae, .int .i64 Ad] 32 ?_; intro Aj hg B1 hbox hb; have Aa := aM (hbox); have Ak := gwS hg Z2; have Ah := gwS hg Z2; replace HB := hbS Z2 hb; clear hb hbox hg; obtain ⟨Bf, Bg, Bh, Bi⟩ := bz4 Aa; obtain ⟨Bj, Bk, Bl, Bm⟩ := fz4 Aa) | ((with_reducible refine gate_callee (f := 66) rfl ?_); refine glE (some 5) Try.func66 #[.int .i64 Ac, .int .i64 1, .int .i64 30] ?_; (with_reducible refine (impl_in.calls Ac 1 30 true _ A2.out).mono ?_); rintro e w' ⟨rfl, ⟨nd, rfl⟩⟩; refine ⟨_, rfl, ?_⟩) | (go_at_call 66; (with_reducible refine (impl_in.calls Af 1 40 false _ A4.out).mono ?_); rintro e w' ⟨rfl, ⟨nd, rfl⟩⟩))
   go_ret
   exact ⟨Z8, Z33⟩
 ·replace c3 := Bool.eq_false_iff.mpr c3
  subst c3
  have H1 : (some false) = some r := by rw [if_neg (show ¬ (false = true) by decide)] at H; exact H
  clear H; have H := H1; clear H1; obtain rfl := Option.some.inj H
  go_enter Try.func36, Try.ntmps36
  go_wp2_with (first | ((with_reducible refine gate_dst (N := 1) rfl ?_); refine bxE 1 #[.int .i64 Ac, .int .i64 Af, .int .i64 Ae, .int .i64 Ad] 32 ?_; intro Aj hg B2 hbox hb; have Aa := aM (hbox); have Ak := gwS hg Z2; have Ah := gwS hg Z2; replace HB := hbS Z2 hb; clear hb hbox hg; obtain ⟨Bn, Bo, Bp, Bq⟩ := bz4 Aa; obtain ⟨Br, Bs, Bt, Bu⟩ := fz4 Aa) | ((with_reducible refine gate_callee (f := 66) rfl ?_); refine glE (some 5) Try.func66 #[.int .i64 Ac, .int .i64 1, .int .i64 30] ?_; (with_reducible refine (impl_in.calls Ac 1 30 false _ A2.out).mono ?_); rintro e w' ⟨rfl, ⟨nd, rfl⟩⟩; refine ⟨_, rfl, ?_⟩))
  go_ret
  exact ⟨Z8, Z33⟩
def impl_ceilDiv.f (a0 : Int) (a1 : Int) : Option (Int) := if a1 = 0 then (none) else (some (wrap64 (Int.tdiv (wrap64 ((wrap64 (a0 + a1)) - 1)) a1)))
theorem impl_ceilDiv.calls (a0 : Int) (a1 : Int) (r : Int) (w : World) (h : impl_ceilDiv.f a0 a1 = some r) :
  Calls Try.prog 53 #[.int .i64 a0, .int .i64 a1] w fun e w' => e = .returned (.int .i64 r) ∧ Drawn0 w w' := by
 have H : (if a1 = 0 then (none) else (some (wrap64 (Int.tdiv (wrap64 ((wrap64 (a0 + a1)) - 1)) a1)))) = some r := h; clear h
 by_cases c3 : a1 = 0
 ·rw [if_pos c3] at H
  exact absurd H (by simp)
 ·rw [if_neg c3] at H
  have c3b0 : (a1 == 0) = false := beq_eq_false_iff_ne.mpr c3; have c3b1 : (a1 != 0) = true := bne_iff_ne.mpr c3; obtain rfl := Option.some.inj H
  go_enter Try.func53, Try.ntmps53
  go_wp2
  go_ret
  exact ⟨Z38, Z61⟩
def impl_Yarn_hundredths.f (a0_0 : Int) (a0_1 : Int) (a0_2 : Int) (a0_3 : Int) : Option (Int) := some (wrap64 ((wrap64 ((wrap64 (2 * a0_0)) + a0_1)) * (wrap64 (100 + a0_2))))
theorem impl_Yarn_hundredths.calls (Aa : Int) (Ab : Int) (Ac : Int) (Ae : Int) (r : Int) (w : World) (h : impl_Yarn_hundredths.f Aa Ab Ac Ae = some r) :
  Calls Try.prog 69 #[.agg #[.int .i64 Aa, .int .i64 Ab, .int .i64 Ac, .int .i64 Ae]] w fun e w' => e = .returned (.int .i64 r) ∧ Below w.heap.size w w' := by
 have hu32 := Try.underlying32; have HB := aM (Below.refl w.heap.size w); have H : (some (wrap64 ((wrap64 ((wrap64 (2 * Aa)) + Ab)) * (wrap64 (100 + Ac))))) = some r := h; clear h; obtain rfl := Option.some.inj H
 go_enter Try.func69, Try.ntmps69
 go_wp2_with (first | ((with_reducible refine gate_dst (N := 1) rfl ?_); refine bxE 1 #[.int .i64 Aa, .int .i64 Ab, .int .i64 Ac, .int .i64 Ae] 32 ?_; intro Ao hg w2 hbox hb; have Ad := aM (hbox); have Ap := gwS hg Z2; have Af := gwS hg Z2; replace HB := hbS Z2 hb; clear hb hbox hg; obtain ⟨Ag, Ah, Ai, Aj⟩ := bz4 Ad; obtain ⟨Ak, Al, Am, An⟩ := fz4 Ad))
 go_ret
 exact ⟨Z8, Z16⟩
def impl_Yarn_yarn.f (a0_0 : Int) (a0_1 : Int) (a0_2 : Int) (a0_3 : Int) (a1 : Int) : Option (Int) := (impl_Yarn_hundredths.f a0_0 a0_1 a0_2 a0_3).bind fun t181 => ((impl_ceilDiv.f (wrap64 (a1 * t181)) 100).bind fun t182 => (some t182))
theorem impl_Yarn_yarn.calls (Ab : Int) (Ac : Int) (Ad : Int) (Ae : Int) (a1 : Int) (r : Int) (w : World) (h : impl_Yarn_yarn.f Ab Ac Ad Ae a1 = some r) :
  Calls Try.prog 67 #[.agg #[.int .i64 Ab, .int .i64 Ac, .int .i64 Ad, .int .i64 Ae], .int .i64 a1] w fun e w' => e = .returned (.int .i64 r) ∧ Below w.heap.size w w' := by
 have hu32 := Try.underlying32; have HB := aM (Below.refl w.heap.size w); have H : ((impl_Yarn_hundredths.f Ab Ac Ad Ae).bind fun Af => ((impl_ceilDiv.f (wrap64 (a1 * Af)) 100).bind fun Ag => (some Ag))) = some r := h; clear h; replace H := Option.bind_eq_some_iff.mp H; obtain ⟨Af, Aq, H⟩ := H; replace H : ((impl_ceilDiv.f (wrap64 (a1 * Af)) 100).bind fun Ag => (some Ag)) = some r := H; have A3 := Aside0.mk Aq; clear Aq; replace H := Option.bind_eq_some_iff.mp H; obtain ⟨Ag, Ar, H⟩ := H; replace H : (some Ag) = some r := H; have A4 := Aside0.mk Ar; clear Ar; obtain rfl := Option.some.inj H
 go_enter Try.func67, Try.ntmps67
 go_wp2_with (first | ((with_reducible refine gate_dst (N := 2) rfl ?_); refine bxE 2 #[.int .i64 Ab, .int .i64 Ac, .int .i64 Ad, .int .i64 Ae] 32 ?_; intro Au hg w5 hbox hb; have Aa := aM (hbox); have Av := gwS hg Z2; have Ah := gwS hg Z2; replace HB := hbS Z2 hb; clear hb hbox hg; obtain ⟨Ai, Aj, Ak, Al⟩ := bz4 Aa; obtain ⟨Am, An, Ao, Ap⟩ := fz4 Aa) | ((with_reducible refine gate_callee (f := 69) rfl ?_); refine glE (some 7) Try.func69 #[.agg #[.int .i64 Ab, .int .i64 Ac, .int .i64 Ad, .int .i64 Ae]] ?_; (with_reducible refine (impl_Yarn_hundredths.calls Ab Ac Ad Ae Af _ A3.out).mono ?_); rintro e w7 ⟨rfl, hb⟩; refine ⟨_, rfl, ?_⟩; replace Aa := bkB Aa hb; replace HB := hbS Z33 hb; (try clear hb)) | ((with_reducible refine gate_callee (f := 53) rfl ?_); refine glE (some 9) Try.func53 #[.int .i64 (wrap64 (a1 * Af)), .int .i64 100] ?_; (with_reducible refine (impl_ceilDiv.calls (wrap64 (a1 * Af)) 100 Ag _ A4.out).mono ?_); rintro e w' ⟨rfl, ⟨nd, rfl⟩⟩; refine ⟨_, rfl, ?_⟩))
 go_ret
 exact ⟨Z8, Z33⟩
def impl_Yarn_yarns.l0 : Nat → Int → List Int → Int → Int → Int → Int → Int → Int → Option (List Int)
 | 0, _, _, _, _, _, _, _, _ => none
 | k + 1, x2, x7, x13, x14, x184000, x184001, x184002, x184003 => if x14 < x13 then (if 0 ≤ x14 then (if x14 < (x7.length : Int) then ((impl_Yarn_yarn.f x184000 x184001 x184002 x184003 (wrap64 ((rd x7 x14) * x2))).bind fun t189 => (impl_Yarn_yarns.l0 k x2 (x7.set (x14 : Int).toNat t189) x13 (wrap64 (x14 + 1)) x184000 x184001 x184002 x184003)) else (none)) else (none)) else (some x7)
def impl_Yarn_yarns.f (k : Nat) (a0_0 : Int) (a0_1 : Int) (a0_2 : Int) (a0_3 : Int) (a1_0 : Int) (a1_1 : Int) (l1_2 : List Int) (a2 : Int) : Option (List Int) := (impl_Chart_colors.f k a1_0 a1_1 l1_2).bind fun t185 => (impl_Yarn_yarns.l0 k a2 t185 (t185.length : Int) 0 a0_0 a0_1 a0_2 a0_3)
theorem impl_Yarn_yarns.calls (k : Nat) (Ah : Int) (Ai : Int) (Aj : Int) (Ak : Int) (Aq : Int) (Ar : Int) (Av : Option Addr) (Aw : Nat) (Am : List Int) (a2 : Int) (r : List Int) (w : World) (Az : Kd.C (Kd.int .i64) w Av Am.length Am) (Ba : Am.length ≤ Aw) (h : impl_Yarn_yarns.f k Ah Ai Aj Ak Aq Ar Am a2 = some r) :
  Calls Try.prog 52 #[.agg #[.int .i64 Ah, .int .i64 Ai, .int .i64 Aj, .int .i64 Ak], .agg #[.int .i64 Aq, .int .i64 Ar, .slice Av Am.length Aw], .int .i64 a2] w fun e w' => ∃ v0_ : Value, e = .returned (v0_) ∧ Kd.R (Kd.int .i64) 3 w' w.heap.size (fun _ => True) v0_ r ∧ Below w.heap.size w w' := by
 have hu32 := Try.underlying32; have hu30 := Try.underlying30; have Br := Aside0.mk Az; have Bs := Aside0.mk Ba; clear Az Ba; have HB := aM (Below.refl w.heap.size w); have H : ((impl_Chart_colors.f k Aq Ar Am).bind fun Ae => (impl_Yarn_yarns.l0 k a2 Ae (Ae.length : Int) 0 Ah Ai Aj Ak)) = some r := h; clear h; replace H := Option.bind_eq_some_iff.mp H; obtain ⟨Ae, Ck, H⟩ := H; replace H : (impl_Yarn_yarns.l0 k a2 Ae (Ae.length : Int) 0 Ah Ai Aj Ak) = some r := H; have A4 := Aside0.mk Ck; clear Ck; have H' := Aside0.mk H; clear H
 go_enter Try.func52, Try.ntmps52
 go_wp2_with (first | ((with_reducible refine gate_dst (N := 3) rfl ?_); refine bxE 3 #[.int .i64 Ah, .int .i64 Ai, .int .i64 Aj, .int .i64 Ak] 32 ?_; intro Bb hg w5 hbox hb; have Ab := aM (hbox); have Cl := gwS hg Z2; have Af := gwS hg Z2; replace HB := hbS Z2 hb; clear hb hbox hg) | ((with_reducible refine gate_dst (N := 4) rfl ?_); refine bxE 4 #[.int .i64 Aq, .int .i64 Ar, .slice Av Am.length Aw] 30 ?_; intro Bc hg w6 hbox hb; have Ac := aM (hbox); have Cm := gwS hg Z16; have An := gwS hg Z16; replace HB := hbS Z16 hb; have Ao := nbL hg Ab; have Ap := nbG hg Ab; replace Ab := bkB Ab hb; clear hb hbox hg; have Cr := Ap.out; have Cs := Ao.out; obtain ⟨Bf, Bg, Bh⟩ := bz3 Ac; obtain ⟨Bi, Bj, Bk⟩ := fz3 Ac) | ((with_reducible refine gate_callee (f := 57) rfl ?_); refine glE (some 11) Try.func57 #[.agg #[.int .i64 Aq, .int .i64 Ar, .slice Av Am.length Aw]] ?_; (with_reducible refine (impl_Chart_colors.calls k Aq Ar _ _ Am Ae _ ?side1 ?side2 A4.out).mono ?_); (case side1 => exact (by repeat (first | exact (Kd.C_below Br.out HB.out) | (with_reducible refine Kd.C_alloc ?_ _) | (with_reducible refine Kd.C_drewN ?_ _) | (with_reducible refine Kd.C_drew ?_)))); (case side2 => exact Bs.out); rintro e w9 ⟨Ct, rfl, Cn, hb⟩; refine ⟨_, rfl, ?_⟩; have Bd := aM (Kd.R_lower Cn (below_size Z49)); replace Ab := bkB Ab hb; replace Ac := bkB Ac hb; replace HB := hbS Z49 hb; (try clear hb); (try clear Cn); obtain ⟨Cc, Bt, Cd⟩ := Kd.R_slice Bd.out; subst Cd))
 go_loopg [14] k (fun kq Cu w' => ∃ (Al : List Int) (Aa : Int), Cu = .int .i64 Aa ∧ Aside0 (impl_Yarn_yarns.l0 kq a2 Al (Ae.length : Int) Aa Ah Ai Aj Ak = some r) ∧ Aside0 (kq ≤ k) ∧ Aside0 (Kd.R (Kd.int .i64) 3 w' w.heap.size (fun _ => True) (.slice Cc Ae.length Bt) Al) ∧ Aside0 (w'.heap[Bb]? = some (.cells #[.int .i64 Ah, .int .i64 Ai, .int .i64 Aj, .int .i64 Ak] 32 (0, 0))) ∧ Aside0 (w'.heap[Bc]? = some (.cells #[.int .i64 Aq, .int .i64 Ar, (.slice Av Am.length Aw)] 30 (0, 0))) ∧ Aside0 (Below w.heap.size w w'))
 case atStart => exact ⟨(Ae), (0), Z38, H', ⟨Nat.le_refl _⟩, ⟨by (with_reducible repeat (first | apply Kd.R_alloc | apply Kd.R_drewN | apply Kd.R_drew)); exact Bd.out⟩, ⟨Z11⟩, ⟨Z25⟩, ⟨Z49⟩⟩
 case round =>
  clear H'; (try clear c1); (try clear p2); (try clear c5); (try clear c7); (try clear Bf); (try clear Bg); (try clear Bh); (try clear Bi); (try clear Bj); (try clear Bk); obtain ⟨Al, Aa, rfl, HA, HK1, Ag, Ab, Ac, HB⟩ := hrel; have Ad := (Kd.R_reads' Ag.out).1; rw [Ad] at Ag
  (try simp only [Ad])
  (try simp only [Ad] at Ab)
  (try simp only [Ad] at Ac)
  cases gk with
  | zero => exact absurd HA.out (by simp [impl_Yarn_yarns.l0])
  | succ k1 =>
   have H := HA.out; clear HA
   simp only [impl_Yarn_yarns.l0] at H
   by_cases Bq : Aa < (Ae.length : Int)
   ·rw [if_pos Bq] at H
    have c11b0 : decide (Aa < (Ae.length : Int)) = true := decide_eq_true Bq
    (try simp only [Ad] at c11b0)
    clear Bq
    by_cases Bz : 0 ≤ Aa
    ·rw [if_pos Bz] at H
     have c12b0 : decide (0 ≤ Aa) = true := decide_eq_true Bz; clear Bz
     by_cases B0 : Aa < (Al.length : Int)
     ·rw [if_pos B0] at H
      have c13b0 : decide (Aa < (Al.length : Int)) = true := decide_eq_true B0
      (try simp only [Ad] at c13b0)
      clear B0; replace H := Option.bind_eq_some_iff.mp H; obtain ⟨Ax, Bu, H⟩ := H; replace H : (impl_Yarn_yarns.l0 k1 a2 (Al.set (Aa : Int).toNat Ax) (Ae.length : Int) (wrap64 (Aa + 1)) Ah Ai Aj Ak) = some r := H; have Cv := Aside0.mk Bu; clear Bu; obtain ⟨Bl, Au⟩ : ∃ y_ : List Int, y_ = (Al.set (Aa : Int).toNat Ax) := ⟨_, rfl⟩
      replace H : (impl_Yarn_yarns.l0 k1 a2 Bl (Ae.length : Int) (wrap64 (Aa + 1)) Ah Ai Aj Ak) = some r := by first | (rw [Au]; with_reducible exact H) | (have H2_ := (Option.bind_some _ _).symm.trans H; rw [Au]; with_reducible exact H2_) | (have H2_ := (Option.bind_some _ _).symm.trans H; with_reducible exact H2_) | with_reducible exact H | (rw [Au]; exact H) | exact H
      have Bv := Aside0.mk Au; clear Au; have H' := Aside0.mk H; clear H; have Bm : 0 ≤ (Aa : Int) := of_decide_eq_true Z30; have Bn : Aa < (Al.length : Int) := of_decide_eq_true Z30; obtain ⟨ad188, e188, Ay⟩ := Kd.at_int (Kd.R_reads' Ag.out).2.2 Aa Bm Bn; cases e188; replace Bm := eq_true Bm; replace Bn := eq_true Bn; have Co := Ao.out; have Cp := Ap.out; obtain ⟨B1, B2, B3, B5⟩ := bz4 Ab; obtain ⟨B7, B9, Ca, Cb⟩ := fz4 Ab
      go_wp2_with (first | ((with_reducible refine gate_callee (f := 67) rfl ?_); refine glE (some 25) Try.func67 #[.agg #[.int .i64 Ah, .int .i64 Ai, .int .i64 Aj, .int .i64 Ak], .int .i64 (wrap64 ((rd Al Aa) * a2))] ?_; (with_reducible refine (impl_Yarn_yarn.calls Ah Ai Aj Ak (wrap64 ((rd Al Aa) * a2)) Ax _ Cv.out).mono ?_); rintro e Cq ⟨rfl, hb⟩; refine ⟨_, rfl, ?_⟩; replace Ag := roB Ag hb; replace Ab := bkB Ab hb; replace Ac := bkB Ac hb; replace HB := hbS Z49 hb; (try clear hb); have Ce : 0 ≤ (Aa : Int) := of_decide_eq_true Z30; have Cf : (Aa : Int) < ((Al.length : Int) : Int) := of_decide_eq_true Z30; obtain ⟨Bo, Cw, Bw, Bx, gl15, cl15, HG15⟩ := Kd.R_form Ag.out (by omega); (first | cases Bw | (injection Bw with ea_ en_ ec_; (first | subst ea_ | (injection ea_ with ea_; subst ea_)); subst ec_; clear en_)); have Cg := Aside0.mk Bx; have Cx := Aside0.mk HG15; clear Bx gl15 HG15; (first | simp only [add_plain] at Ay | skip); obtain ⟨Ch, Ci⟩ := Kd.R_celln 0 Ag.out (Aa : Int) Ce Cf; replace Ce := eq_true Ce; replace Cf := eq_true Cf; obtain ⟨hy19_, hz19_⟩ := Kd.R_celln 0 Ag.out (Aa : Int) (of_decide_eq_true Z30) (of_decide_eq_true Z30); have Bp := Kd.R_putg Ag.out (Aa : Int) Ax) | ((with_reducible refine gate_store (t := 3) (p := 26) rfl ?_); refine store_event (t := 3) (p := 26) (v := ?vo_w20) (w1 := (Cq.setCell ⟨Bo, (Aa : Int).toNat, none⟩ (.int .i64 Ax))) ?hg ?ho ?hn ?hr ?_; (case ho => rfl); (case hg => rfl); (case hn => rfl); (case hr => first | (go_simp; done) | (go_simp; rfl)); intro Cj hw; have hg : Cq.grownBy Cj (some Bo) := (by rw [hw]; exact Bp.2); have hp_ : Kd.R (Kd.int .i64) 3 Cj w.heap.size (fun _ => True) (.slice (some ⟨Bo, 0, none⟩) Al.length Bt) Bl := (by rw [hw, Bv.out]; exact Bp.1); clear Bp; replace Ab := aM (blk_grown (g := Bb) (o := .cells #[.int .i64 Ah, .int .i64 Ai, .int .i64 Aj, .int .i64 Ak] 32 (0, 0)) Z11 hg (Kd.R_ne Ag.out Ab.out (by decide))); replace Ac := aM (blk_grown (g := Bc) (o := .cells #[.int .i64 Aq, .int .i64 Ar, .slice Av Am.length Aw] 30 (0, 0)) Z25 hg (Kd.R_ne Ag.out Ac.out (by decide))); replace Ag := aM (hp_); replace HB := aM ((by rw [hw]; exact below_set (HB.out) Cg.out : Below w.heap.size w Cj)); clear hg hw hp_))
      (try simp only [← Ad])
      go_roundg k1
      case measure => have := HK1.out; omega
      case rel => exact ⟨(Bl), (wrap64 (Aa + 1)), Z38, H', ⟨Z110⟩, ⟨by (try simp only [Ad]); (with_reducible repeat (first | apply Kd.R_alloc | apply Kd.R_drewN | apply Kd.R_drew)); exact Ag.out⟩, ⟨Z103⟩, ⟨Z104⟩, ⟨Z49⟩⟩
     ·rw [if_neg B0] at H
      exact absurd H (by simp)
    ·rw [if_neg Bz] at H
     exact absurd H (by simp)
   ·rw [if_neg Bq] at H
    have c11b0 : decide (Aa < (Ae.length : Int)) = false := decide_eq_false Bq
    (try simp only [Ad] at c11b0)
    clear Bq; obtain rfl := Option.some.inj H
    go_wp2
    go_ret
    exact ⟨_, Z8, Z26, Z49⟩
end Go.Proofs.Ytnkecgldapagcaa.H
