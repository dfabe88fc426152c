-- by wip/pack.py of this repo
import Derived.Test.YtcjalfgnnabghaaZ08Hx0
import Derived.Test.YtcjalfgnnabghaaZ08WGuard
import Derived.Test.YtcjalfgnnabghaaZ08WLast
import Derived.Test.YtcjalfgnnabghaaZ08WMore
import Derived.Test.YtcjalfgnnabghaaZ08WWords
import Derived.Test.YtcjalfgnnabghaaZ08Short
namespace Go.Proofs.Ytcjalfgnnabghaa.H
open Go.RowKit Go.Proofs.YtcjalfgnnabghaaW.PrintWords Go.Proofs.YtcjalfgnnabghaaW.PrintLast Go.Proofs.YtcjalfgnnabghaaW.PrintMore
attribute [local go_sem] max2_int min2_int max_two min_two max_three min_three max_four min_four
set_option maxHeartbeats 8000000
set_option maxRecDepth 100000
set_option linter.unusedVariables false
set_option linter.unusedSimpArgs false
def spec_l1In.f (a0 : Int) (a1 : Int) (a2 : Int) : Option (Bool) := if a0 ≥ a1 then (some (decide (a0 ≤ a2))) else (some false)
theorem spec_l1In.calls (a0 : Int) (a1 : Int) (a2 : Int) (r : Bool) (w : World) (h : spec_l1In.f a0 a1 a2 = some r) :
  Calls Try.prog 72 #[.int .i64 a0, .int .i64 a1, .int .i64 a2] w fun e w' => e = .returned (.bool r) ∧ Drawn0 w w' := by
 have H : (if a0 ≥ a1 then (some (decide (a0 ≤ a2))) else (some false)) = some r := h; clear h
 by_cases c4 : a0 ≥ a1
 ·rw [if_pos c4] at H
  have c4b0 : decide (a1 ≤ a0) = true := decide_eq_true c4; clear c4; obtain rfl := Option.some.inj H
  go_enter Try.func72, Try.ntmps72
  go_wp2
  go_ret
  exact ⟨Z10, Z108⟩
 ·rw [if_neg c4] at H
  have c4b0 : decide (a1 ≤ a0) = false := decide_eq_false c4; clear c4; obtain rfl := Option.some.inj H
  go_enter Try.func72, Try.ntmps72
  go_wp2
  go_ret
  exact ⟨Z10, Z108⟩
theorem spec_l1In.eq (a b c : Int) : spec_l1In.f a b c = some (rng a b c) := by
 unfold spec_l1In.f rng; by_cases h : b ≤ a <;> simp [h]
def spec_l2Color.f (a0 : Int) : Option (Bool) := (spec_l1In.f a0 0 5).bind fun t103 => (some t103)
theorem spec_l2Color.calls (a0 : Int) (r : Bool) (w : World) (h : spec_l2Color.f a0 = some r) :
  Calls Try.prog 63 #[.int .i64 a0] w fun e w' => e = .returned (.bool r) ∧ Drawn0 w w' := by
 have H : ((spec_l1In.f a0 0 5).bind fun Aa => (some Aa)) = some r := h; clear h; replace H := Option.bind_eq_some_iff.mp H; obtain ⟨Aa, Ab, H⟩ := H; replace H : (some Aa) = some r := H; have A2 := Aside0.mk Ab; clear Ab; obtain rfl := Option.some.inj H
 go_enter Try.func63, Try.ntmps63
 go_wp2_with (first | ((with_reducible refine gate_callee (f := 72) rfl ?_); refine glE (some 4) Try.func72 #[.int .i64 a0, .int .i64 0, .int .i64 5] ?_; (with_reducible refine (spec_l1In.calls a0 0 5 Aa _ A2.out).mono ?_); rintro e w' ⟨rfl, ⟨nd, rfl⟩⟩; refine ⟨_, rfl, ?_⟩))
 go_ret
 exact ⟨Z10, Z108⟩
def spec_l2Side.f (a0 : Int) : Option (Bool) := (spec_l1In.f a0 1 8).bind fun t104 => (some t104)
theorem spec_l2Side.calls (a0 : Int) (r : Bool) (w : World) (h : spec_l2Side.f a0 = some r) :
  Calls Try.prog 95 #[.int .i64 a0] w fun e w' => e = .returned (.bool r) ∧ Drawn0 w w' := by
 have H : ((spec_l1In.f a0 1 8).bind fun Aa => (some Aa)) = some r := h; clear h; replace H := Option.bind_eq_some_iff.mp H; obtain ⟨Aa, Ab, H⟩ := H; replace H : (some Aa) = some r := H; have A2 := Aside0.mk Ab; clear Ab; obtain rfl := Option.some.inj H
 go_enter Try.func95, Try.ntmps95
 go_wp2_with (first | ((with_reducible refine gate_callee (f := 72) rfl ?_); refine glE (some 4) Try.func72 #[.int .i64 a0, .int .i64 1, .int .i64 8] ?_; (with_reducible refine (spec_l1In.calls a0 1 8 Aa _ A2.out).mono ?_); rintro e w' ⟨rfl, ⟨nd, rfl⟩⟩; refine ⟨_, rfl, ?_⟩))
 go_ret
 exact ⟨Z10, Z108⟩
def spec_l2Good.l0 : Nat → Int → Int → Int → List Int → Option (Bool)
 | 0, _, _, _, _ => none
 | k + 1, x3, x106000, x106001, x106002 => if x3 < (x106002.length : Int) then (if 0 ≤ x3 then ((spec_l2Color.f (rd x106002 x3)).bind fun t107 => (if t107 = true then (spec_l2Good.l0 k (wrap64 (x3 + 1)) x106000 x106001 x106002) else (some false))) else (none)) else ((spec_l2Side.f x106000).bind fun t108 => (if t108 = true then ((spec_l2Side.f x106001).bind fun t109 => (if t109 = true then (some ((x106002.length : Int) == (wrap64 (x106000 * x106001)))) else (some false))) else (some false)))
def spec_l2Good.f (k : Nat) (a0_0 : Int) (a0_1 : Int) (l0_2 : List Int) : Option (Bool) := spec_l2Good.l0 k 0 a0_0 a0_1 l0_2
theorem spec_l2Good.calls (k : Nat) (Ae : Int) (Af : Int) (Ak : Option Addr) (Al : Nat) (Aa : List Int) (r : Bool) (w : World) (Am : Kd.C (Kd.int .i64) w Ak Aa.length Aa) (An : Aa.length ≤ Al) (h : spec_l2Good.f k Ae Af Aa = some r) :
  Calls Try.prog 71 #[.agg #[.int .i64 Ae, .int .i64 Af, .slice Ak Aa.length Al]] w fun e w' => e = .returned (.bool r) ∧ Below w.heap.size w w' := by
 have hu28 := Try.underlying28; have Ap := Aside0.mk Am; have Cb := Aside0.mk An; clear Am An; have HB := aM (Below.refl w.heap.size w); have H : (spec_l2Good.l0 k 0 Ae Af Aa) = some r := h; clear h; have H' := Aside0.mk H; clear H
 go_enter Try.func71, Try.ntmps71
 go_wp2_with (first | ((with_reducible refine gate_dst (N := 1) rfl ?_); (try (refine gate_guard (by rfl) ?_; dsimp only)); refine bxE 1 #[.int .i64 Ae, .int .i64 Af, .slice Ak Aa.length Al] 28 ?_; intro Aq hg w2 hbox hb; have Ac := aM (hbox); have Cc := gwS hg Z0; have Ag := gwS hg Z0; replace HB := hbS Z0 hb; clear hb hbox hg))
 go_loopg [3] k (fun kq v3 w' => ∃ (Ab : Int), v3 = .int .i64 Ab ∧ Aside0 (spec_l2Good.l0 kq Ab Ae Af Aa = some r) ∧ Aside0 (kq ≤ k) ∧ Aside0 (w'.heap[Aq]? = some (.cells #[.int .i64 Ae, .int .i64 Af, (.slice Ak Aa.length Al)] 28 (0, 0))) ∧ Aside0 (Below w.heap.size w w'))
 case atStart => exact ⟨(0), Z10, H', ⟨Nat.le_refl _⟩, ⟨Z67⟩, ⟨Z96⟩⟩
 case round =>
  clear H'; (try clear p2); obtain ⟨Ab, rfl, HA, HK1, Ac, HB⟩ := hrel; cases gk with
  | zero => exact absurd HA.out (by simp [spec_l2Good.l0])
  | succ k1 =>
   have H := HA.out; clear HA
   simp only [spec_l2Good.l0] at H
   by_cases c3 : Ab < (Aa.length : Int)
   ·rw [if_pos c3] at H
    have c3b0 : decide (Ab < (Aa.length : Int)) = true := decide_eq_true c3; clear c3
    by_cases c4 : 0 ≤ Ab
    ·rw [if_pos c4] at H
     have c4b0 : decide (0 ≤ Ab) = true := decide_eq_true c4; clear c4; replace H := Option.bind_eq_some_iff.mp H; obtain ⟨Ar, Cd, H⟩ := H; replace H : (if Ar = true then (spec_l2Good.l0 k1 (wrap64 (Ab + 1)) Ae Af Aa) else (some false)) = some r := H; have A5 := Aside0.mk Cd; clear Cd
     by_cases c6 : Ar = true
     ·subst c6
      have H1 : (spec_l2Good.l0 k1 (wrap64 (Ab + 1)) Ae Af Aa) = some r := by rw [if_pos rfl] at H; exact H
      clear H; have H := H1; clear H1; have H' := Aside0.mk H; clear H; obtain ⟨Br, Bs, Bt⟩ := bz3 Ac; obtain ⟨Bu, Bv, Bw⟩ := fz3 Ac; have Ah : 0 ≤ (Ab : Int) := of_decide_eq_true Z58; have Ai : Ab < (Aa.length : Int) := of_decide_eq_true Z58; obtain ⟨ad106, e106, Ad⟩ := Kd.at_int Ap.out Ab Ah Ai; cases e106; replace Ad := (HB.out.cell (World.block_lt_of_cell? w _ Ad)).trans Ad; replace Ah := eq_true Ah; replace Ai := eq_true Ai
      go_wp2_with (first | ((with_reducible refine gate_callee (f := 63) rfl ?_); refine glE (some 16) Try.func63 #[.int .i64 (rd Aa Ab)] ?_; (with_reducible refine (spec_l2Color.calls (rd Aa Ab) true _ A5.out).mono ?_); rintro e w' ⟨rfl, ⟨nd, rfl⟩⟩; refine ⟨_, rfl, ?_⟩))
      go_roundg k1
      case measure => have := HK1.out; omega
      case rel => exact ⟨(wrap64 (Ab + 1)), Z10, H', ⟨Z247⟩, ⟨Z67⟩, ⟨Z96⟩⟩
     ·replace c6 := Bool.eq_false_iff.mpr c6
      subst c6
      have H1 : (some false) = some r := by rw [if_neg (show ¬ (false = true) by decide)] at H; exact H
      clear H; have H := H1; clear H1; obtain rfl := Option.some.inj H; obtain ⟨Bx, Bz, B0⟩ := bz3 Ac; obtain ⟨B6, B9, Ca⟩ := fz3 Ac; have Ah : 0 ≤ (Ab : Int) := of_decide_eq_true Z58; have Ai : Ab < (Aa.length : Int) := of_decide_eq_true Z58; obtain ⟨ad106, e106, Ad⟩ := Kd.at_int Ap.out Ab Ah Ai; cases e106; replace Ad := (HB.out.cell (World.block_lt_of_cell? w _ Ad)).trans Ad; replace Ah := eq_true Ah; replace Ai := eq_true Ai
      go_wp2_with (first | ((with_reducible refine gate_callee (f := 63) rfl ?_); refine glE (some 16) Try.func63 #[.int .i64 (rd Aa Ab)] ?_; (with_reducible refine (spec_l2Color.calls (rd Aa Ab) false _ A5.out).mono ?_); rintro e w' ⟨rfl, ⟨nd, rfl⟩⟩; refine ⟨_, rfl, ?_⟩))
      go_ret
      exact ⟨Z9, Z96⟩
    ·rw [if_neg c4] at H
     exact absurd H (by simp)
   ·rw [if_neg c3] at H
    have c3b0 : decide (Ab < (Aa.length : Int)) = false := decide_eq_false c3; clear c3; replace H := Option.bind_eq_some_iff.mp H; obtain ⟨Au, Ce, H⟩ := H; replace H : (if Au = true then ((spec_l2Side.f Af).bind fun Aj => (if Aj = true then (some ((Aa.length : Int) == (wrap64 (Ae * Af)))) else (some false))) else (some false)) = some r := H; have A9 := Aside0.mk Ce; clear Ce
    by_cases Aw : Au = true
    ·subst Aw
     have H1 : ((spec_l2Side.f Af).bind fun Aj => (if Aj = true then (some ((Aa.length : Int) == (wrap64 (Ae * Af)))) else (some false))) = some r := by rw [if_pos rfl] at H; exact H
     clear H; have H := H1; clear H1; replace H := Option.bind_eq_some_iff.mp H; obtain ⟨Aj, Av, H⟩ := H; replace H : (if Aj = true then (some ((Aa.length : Int) == (wrap64 (Ae * Af)))) else (some false)) = some r := H; have Cf := Aside0.mk Av; clear Av
     by_cases Ax : Aj = true
     ·subst Ax
      have H1 : (some ((Aa.length : Int) == (wrap64 (Ae * Af)))) = some r := by rw [if_pos rfl] at H; exact H
      clear H; have H := H1; clear H1; obtain rfl := Option.some.inj H; obtain ⟨Ay, Az, Ba⟩ := bz3 Ac; obtain ⟨Bb, Bc, Bd⟩ := fz3 Ac
      go_wp2_with (first | ((with_reducible refine gate_callee (f := 95) rfl ?_); refine glE (some 20) Try.func95 #[.int .i64 Ae] ?_; (with_reducible refine (spec_l2Side.calls Ae true _ A9.out).mono ?_); rintro e w' ⟨rfl, ⟨nd, rfl⟩⟩; refine ⟨_, rfl, ?_⟩) | (go_at_call 95; (with_reducible refine (spec_l2Side.calls Af true _ Cf.out).mono ?_); rintro e w' ⟨rfl, ⟨nd, rfl⟩⟩))
      go_ret
      exact ⟨Z9, Z96⟩
     ·replace Ax := Bool.eq_false_iff.mpr Ax
      subst Ax
      have H1 : (some false) = some r := by rw [if_neg (show ¬ (false = true) by decide)] at H; exact H
      clear H; have H := H1; clear H1; obtain rfl := Option.some.inj H; obtain ⟨Bf, Bg, Bh⟩ := bz3 Ac; obtain ⟨Bi, Bj, Bk⟩ := fz3 Ac
      go_wp2_with (first | ((with_reducible refine gate_callee (f := 95) rfl ?_); refine glE (some 20) Try.func95 #[.int .i64 Ae] ?_; (with_reducible refine (spec_l2Side.calls Ae true _ A9.out).mono ?_); rintro e w' ⟨rfl, ⟨nd, rfl⟩⟩; refine ⟨_, rfl, ?_⟩) | (go_at_call 95; (with_reducible refine (spec_l2Side.calls Af false _ Cf.out).mono ?_); rintro e w' ⟨rfl, ⟨nd, rfl⟩⟩))
      go_ret
      exact ⟨Z9, Z96⟩
    ·replace Aw := Bool.eq_false_iff.mpr Aw
     subst Aw
     have H1 : (some false) = some r := by rw [if_neg (show ¬ (false = true) by decide)] at H; exact H
     clear H; have H := H1; clear H1; obtain rfl := Option.some.inj H; obtain ⟨Bl, Bm, Bn⟩ := bz3 Ac; obtain ⟨Bo, Bp, Bq⟩ := fz3 Ac
     go_wp2_with (first | ((with_reducible refine gate_callee (f := 95) rfl ?_); refine glE (some 20) Try.func95 #[.int .i64 Ae] ?_; (with_reducible refine (spec_l2Side.calls Ae false _ A9.out).mono ?_); rintro e w' ⟨rfl, ⟨nd, rfl⟩⟩; refine ⟨_, rfl, ?_⟩))
     go_ret
     exact ⟨Z9, Z96⟩
def impl_in.f (a0 : Int) (a1 : Int) (a2 : Int) : Option (Bool) := if a0 ≥ a1 then (some (decide (a0 ≤ a2))) else (some false)
theorem impl_in.calls (a0 : Int) (a1 : Int) (a2 : Int) (r : Bool) (w : World) (h : impl_in.f a0 a1 a2 = some r) :
  Calls Try.prog 73 #[.int .i64 a0, .int .i64 a1, .int .i64 a2] w fun e w' => e = .returned (.bool r) ∧ Drawn0 w w' := by
 have H : (if a0 ≥ a1 then (some (decide (a0 ≤ a2))) else (some false)) = some r := h; clear h
 by_cases c4 : a0 ≥ a1
 ·rw [if_pos c4] at H
  have c4b0 : decide (a1 ≤ a0) = true := decide_eq_true c4; clear c4; obtain rfl := Option.some.inj H
  go_enter Try.func73, Try.ntmps73
  go_wp2
  go_ret
  exact ⟨Z10, Z108⟩
 ·rw [if_neg c4] at H
  have c4b0 : decide (a1 ≤ a0) = false := decide_eq_false c4; clear c4; obtain rfl := Option.some.inj H
  go_enter Try.func73, Try.ntmps73
  go_wp2
  go_ret
  exact ⟨Z10, Z108⟩
theorem impl_in.eq (a b c : Int) : impl_in.f a b c = some (rng a b c) := by
 unfold impl_in.f rng; by_cases h : b ≤ a <;> simp [h]
def impl_isColor.f (a0 : Int) : Option (Bool) := (impl_in.f a0 0 5).bind fun t151 => (some t151)
theorem impl_isColor.calls (a0 : Int) (r : Bool) (w : World) (h : impl_isColor.f a0 = some r) :
  Calls Try.prog 68 #[.int .i64 a0] w fun e w' => e = .returned (.bool r) ∧ Drawn0 w w' := by
 have H : ((impl_in.f a0 0 5).bind fun Aa => (some Aa)) = some r := h; clear h; replace H := Option.bind_eq_some_iff.mp H; obtain ⟨Aa, Ab, H⟩ := H; replace H : (some Aa) = some r := H; have A2 := Aside0.mk Ab; clear Ab; obtain rfl := Option.some.inj H
 go_enter Try.func68, Try.ntmps68
 go_wp2_with (first | ((with_reducible refine gate_callee (f := 73) rfl ?_); refine glE (some 4) Try.func73 #[.int .i64 a0, .int .i64 0, .int .i64 5] ?_; (with_reducible refine (impl_in.calls a0 0 5 Aa _ A2.out).mono ?_); rintro e w' ⟨rfl, ⟨nd, rfl⟩⟩; refine ⟨_, rfl, ?_⟩))
 go_ret
 exact ⟨Z10, Z108⟩
def impl_isSide.f (a0 : Int) : Option (Bool) := (impl_in.f a0 1 8).bind fun t152 => (some t152)
theorem impl_isSide.calls (a0 : Int) (r : Bool) (w : World) (h : impl_isSide.f a0 = some r) :
  Calls Try.prog 93 #[.int .i64 a0] w fun e w' => e = .returned (.bool r) ∧ Drawn0 w w' := by
 have H : ((impl_in.f a0 1 8).bind fun Aa => (some Aa)) = some r := h; clear h; replace H := Option.bind_eq_some_iff.mp H; obtain ⟨Aa, Ab, H⟩ := H; replace H : (some Aa) = some r := H; have A2 := Aside0.mk Ab; clear Ab; obtain rfl := Option.some.inj H
 go_enter Try.func93, Try.ntmps93
 go_wp2_with (first | ((with_reducible refine gate_callee (f := 73) rfl ?_); refine glE (some 4) Try.func73 #[.int .i64 a0, .int .i64 1, .int .i64 8] ?_; (with_reducible refine (impl_in.calls a0 1 8 Aa _ A2.out).mono ?_); rintro e w' ⟨rfl, ⟨nd, rfl⟩⟩; refine ⟨_, rfl, ?_⟩))
 go_ret
 exact ⟨Z10, Z108⟩
set_option maxHeartbeats 4000000 in
theorem IndexFunc_int (p : Int → Bool) (g : Nat) (lb : Array Value) (A : Option Addr) (c : Nat) (xs : List Int) (w : World)
  (eg : ∀ args w, (callFunc g args).run Try.prog w = .ok (.enter g args) w) (hr : Kd.C (Kd.int .i64) w A xs.length xs)
  (hp : ∀ (W : World) (x : Int), Below w.heap.size w W → Calls Try.prog g (#[.int .i64 x] ++ lb) W fun e w' => e = .returned (.bool (p x)) ∧ Below W.heap.size W w') :
  Calls Try.prog 121 #[.slice A xs.length c, .func (.func g) #[] lb] w fun e w' => e = .returned (.int .i64 (findI p xs)) ∧ Below w.heap.size w w' := by
 have hlen := Aside0.mk hr.2.1; have HR := Aside0.mk hr; have HP := Aside0.mk hp; clear hr hp
 go_enter Try.func121, Try.ntmps121
 go_wp2
 go_loopg [5, 8] xs.length (fun gg _ s8 wr => ∃ x : Int, s8 = .int .i64 x ∧ Aside0 (0 ≤ x ∧ x ≤ (xs.length : Int) ∧ (xs.length : Int) - x ≤ gg) ∧ Aside0 (Below w.heap.size w wr) ∧ Aside0 (∀ j : Nat, (j : Int) < x → p (xs.getD j 0) = false))
 case atStart => exact ⟨0, rfl, ⟨by omega, by omega, by omega⟩, ⟨Below.refl _ _⟩, ⟨fun j hj => absurd hj (by omega)⟩⟩
 case round =>
  obtain ⟨x, rfl, HX, BW, HA⟩ := hrel
  by_cases hlt : x < (xs.length : Int)
  ·have c0 : decide (x < (xs.length : Int)) = true := decide_eq_true hlt
   obtain ⟨ad, e0, Aa⟩ := Kd.at_int (Kd.C_below HR.out BW.out) x HX.out.1 hlt; cases e0; have c1 : decide (0 ≤ x) = true := decide_eq_true HX.out.1; have p0 := eq_true HX.out.1; have p1 := eq_true hlt; have HL := Aside0.mk hlt; clear hlt; have hcall := HP.out _ (rd xs x) BW.out; have hget : Aside0 (xs.getD x.toNat 0 = (rd xs x)) := ⟨rfl⟩; cases hq : p (rd xs x) with
   | true =>
    rw [hq] at hcall; have HQ := Aside0.mk hq; have HC := Aside0.mk hcall; clear hq hcall
    go_wp2_with fail
    refine HC.out.mono ?_; rintro e w' ⟨rfl, hb'⟩; have HB := aM (below_step BW.out hb'); clear hb'
    go_wp2
    go_ret
    refine ⟨?_, HB.out⟩; rw [findI_hit p 0 xs x.toNat Z242 (fun j hj => HA.out j Z250) (by rw [hget.out]; exact HQ.out)]; rw [Int.toNat_of_nonneg HX.out.1]
    rfl
   | false =>
    rw [hq] at hcall; have HQ := Aside0.mk hq; have HC := Aside0.mk hcall; clear hq hcall
    go_wp2_with fail
    refine HC.out.mono ?_; rintro e w' ⟨rfl, hb'⟩; have HB := aM (below_step BW.out hb'); clear hb'
    go_wp2
    have hw1 : wrap64 (x + 1) = x + 1 := by have := HX.out; have := HL.out; have := hlen.out; unfold wrap64; omega
    go_roundg (xs.length - (x.toNat + 1))
    case measure => have := HX.out; have := HL.out; omega
    case rel =>
     refine ⟨x + 1, by first | rfl | rw [hw1] | simp [hw1], ⟨Z250, Z251, Z242⟩, HB, ⟨fun j hj => ?_⟩⟩
     by_cases e : (j : Int) < x
     ·exact HA.out j e
     ·have hj' : j = x.toNat := by have := HX.out; omega
      subst hj'; rw [hget.out]
      exact HQ.out
  ·have c0 : decide (x < (xs.length : Int)) = false := decide_eq_false hlt
   have HL := Aside0.mk hlt; clear hlt
   go_wp2
   go_ret
   refine ⟨?_, BW.out⟩; rw [findI_miss p 0 xs (fun j hj => HA.out j Z251)]
   rfl
set_option maxHeartbeats 4000000 in
theorem ContainsFunc_int (p : Int → Bool) (g : Nat) (lb : Array Value) (A : Option Addr) (c : Nat) (xs : List Int) (w : World)
  (eg : ∀ args w, (callFunc g args).run Try.prog w = .ok (.enter g args) w) (hr : Kd.C (Kd.int .i64) w A xs.length xs)
  (hp : ∀ (W : World) (x : Int), Below w.heap.size w W → Calls Try.prog g (#[.int .i64 x] ++ lb) W fun e w' => e = .returned (.bool (p x)) ∧ Below W.heap.size W w') :
  Calls Try.prog 107 #[.slice A xs.length c, .func (.func g) #[] lb] w fun e w' => e = .returned (.bool (xs.any p)) ∧ Below w.heap.size w w' := by
 have HC := aM (IndexFunc_int p g lb A c xs w eg hr hp); clear hr hp eg; rw [← findI_any]
 go_enter Try.func107, Try.ntmps107
 go_wp2_with fail
 refine HC.out.mono ?_; rintro e w' ⟨rfl, hb'⟩
 go_wp2
 go_ret
 exact ⟨Z148, hb'⟩
set_option maxHeartbeats 4000000 in
theorem areAll_int_1 (p : Int → Bool) (g : Nat) (lb : Array Value) (b : Nat) (x : Int) (W : World)
  (eg : ∀ args w, (callFunc g args).run Try.prog w = .ok (.enter g args) w) (hc : W.cell? ⟨b, 0, none⟩ = some (.func (.func g) #[] lb))
  (hp : ∀ W1, Below W.heap.size W W1 → Calls Try.prog g (#[.int .i64 x] ++ lb) W1 fun e w' => e = .returned (.bool (p x)) ∧ Below W1.heap.size W1 w') (hb : b < W.heap.size) :
  Calls Try.prog 108 #[.int .i64 x, .pointer (some ⟨b, 0, none⟩)] W fun e w' => e = .returned (.bool (!p x)) ∧ Below W.heap.size W w' := by
 have HP := Aside0.mk hp; clear hp
 go_enter Try.func108, Try.ntmps108
 go_wp2_with fail
 refine (HP.out _ (Below.refl _ _)).mono ?_; rintro e w' ⟨rfl, hb'⟩
 go_wp2
 go_ret
 exact ⟨Z148, hb'⟩
set_option maxHeartbeats 4000000 in
theorem areAll_int (p : Int → Bool) (g : Nat) (lb : Array Value) (A : Option Addr) (c : Nat) (xs : List Int) (w : World)
  (eg : ∀ args w, (callFunc g args).run Try.prog w = .ok (.enter g args) w) (hr : Kd.C (Kd.int .i64) w A xs.length xs)
  (hp : ∀ (W : World) (x : Int), Below w.heap.size w W → Calls Try.prog g (#[.int .i64 x] ++ lb) W fun e w' => e = .returned (.bool (p x)) ∧ Below W.heap.size W w') :
  Calls Try.prog 94 #[.slice A xs.length c, .func (.func g) #[] lb] w fun e w' => e = .returned (.bool (xs.all p)) ∧ Below w.heap.size w w' := by
 have hmf : ∀ (fn : Fn) (first cap : Array Value) (w : World), (Instr.makeFunc fn first cap).run Try.prog w = .ok (.func fn first cap) w := fun _ _ _ _ => rfl
 have hB1 : Below w.heap.size w (w.alloc (.cells #[.func (.func g) #[] lb] 74)) := below_alloc (Below.refl _ _) _
 have Aa : (w.alloc (.cells #[.func (.func g) #[] lb] 74)).cell? ⟨w.heap.size, 0, none⟩ = some (.func (.func g) #[] lb) := by simp
 have hsz : w.heap.size < (w.alloc (.cells #[.func (.func g) #[] lb] 74)).heap.size := by simp
 have HC := aM (ContainsFunc_int (fun x => !p x) 108 #[.pointer (some ⟨w.heap.size, 0, none⟩)] A c xs (w.alloc (.cells #[.func (.func g) #[] lb] 74)) (enters_of Try.func108 Z61 rfl) (Kd.C_below hr hB1)
  (fun W x hW => areAll_int_1 p g lb w.heap.size x W eg ((hW.cell (p := ⟨w.heap.size, 0, none⟩) hsz).trans Aa) (fun W1 h1 => hp W1 x ((hB1.trans (hW.mono hB1.size)).trans (h1.mono (Nat.le_trans hB1.size hW.size)))) (Nat.lt_of_lt_of_le hsz hW.size)))
 have HB := Aside0.mk hB1; rw [← any_not]; clear hB1 Aa hsz hp hr eg
 go_enter Try.func94, Try.ntmps94
 go_wp2_with fail
 refine HC.out.mono ?_; rintro e w' ⟨rfl, hb'⟩
 go_wp2
 go_ret
 exact ⟨Z148, below_step HB.out hb'⟩
theorem impl_isColor.tot : ∀ x : Int, impl_isColor.f x = some ((fun x : Int => rng x 0 5) x) := fun x => by unfold impl_isColor.f; rw [impl_in.eq]; rfl
def areAll_impl_isColor.f (l0 : List Int) : Option Bool := some (l0.all (fun x : Int => rng x 0 5))
theorem areAll_impl_isColor.calls (A0 : Option Addr) (c0 : Nat) (l0 : List Int) (r : Bool) (w : World) (Aa : Kd.C (Kd.int .i64) w A0 l0.length l0) (Ac : l0.length ≤ c0) (h : areAll_impl_isColor.f l0 = some r) :
  Calls Try.prog 94 #[.slice A0 l0.length c0, .func (.func 68) #[] #[]] w fun e w' => e = .returned (.bool r) ∧ Below w.heap.size w w' := by
 have Ab := Option.some.inj h; subst Ab
 exact areAll_int (fun x : Int => rng x 0 5) 68 #[] A0 c0 l0 w (enters_of Try.func68 Z61 rfl) Aa (fun W x _ => (impl_isColor.calls x _ W (impl_isColor.tot x)).mono fun e w' ⟨he, hd⟩ => ⟨he, by first | exact hd | exact hd.below⟩)
def impl_IsChart.f (a0_0 : Int) (a0_1 : Int) (l0_2 : List Int) : Option (Bool) := (impl_isSide.f a0_0).bind fun t154 => (if t154 = true then ((impl_isSide.f a0_1).bind fun t155 => (if t155 = true then (if (l0_2.length : Int) = (wrap64 (a0_0 * a0_1)) then ((areAll_impl_isColor.f l0_2).bind fun t156 => (some t156)) else (some false)) else (some false))) else (some false))
theorem impl_IsChart.calls (Aa : Int) (Ac : Int) (Ah : Option Addr) (Ai : Nat) (Ab : List Int) (r : Bool) (w : World) (Am : Kd.C (Kd.int .i64) w Ah Ab.length Ab) (An : Ab.length ≤ Ai) (h : impl_IsChart.f Aa Ac Ab = some r) :
  Calls Try.prog 66 #[.agg #[.int .i64 Aa, .int .i64 Ac, .slice Ah Ab.length Ai]] w fun e w' => e = .returned (.bool r) ∧ Below w.heap.size w w' := by
 have hu28 := Try.underlying28; have Ap := Aside0.mk Am; have Aq := Aside0.mk An; clear Am An; have HB := aM (Below.refl w.heap.size w); have H : ((impl_isSide.f Aa).bind fun Al => (if Al = true then ((impl_isSide.f Ac).bind fun Ag => (if Ag = true then (if (Ab.length : Int) = (wrap64 (Aa * Ac)) then ((areAll_impl_isColor.f Ab).bind fun Af => (some Af)) else (some false)) else (some false))) else (some false))) = some r := h; clear h; replace H := Option.bind_eq_some_iff.mp H; obtain ⟨Al, Bs, H⟩ := H; replace H : (if Al = true then ((impl_isSide.f Ac).bind fun Ag => (if Ag = true then (if (Ab.length : Int) = (wrap64 (Aa * Ac)) then ((areAll_impl_isColor.f Ab).bind fun Af => (some Af)) else (some false)) else (some false))) else (some false)) = some r := H; have A2 := Aside0.mk Bs; clear Bs
 by_cases c3 : Al = true
 ·subst c3
  have H1 : ((impl_isSide.f Ac).bind fun Ag => (if Ag = true then (if (Ab.length : Int) = (wrap64 (Aa * Ac)) then ((areAll_impl_isColor.f Ab).bind fun Af => (some Af)) else (some false)) else (some false))) = some r := by rw [if_pos rfl] at H; exact H
  clear H; have H := H1; clear H1; replace H := Option.bind_eq_some_iff.mp H; obtain ⟨Ag, Bt, H⟩ := H; replace H : (if Ag = true then (if (Ab.length : Int) = (wrap64 (Aa * Ac)) then ((areAll_impl_isColor.f Ab).bind fun Af => (some Af)) else (some false)) else (some false)) = some r := H; have A4 := Aside0.mk Bt; clear Bt
  by_cases c5 : Ag = true
  ·subst c5
   have H1 : (if (Ab.length : Int) = (wrap64 (Aa * Ac)) then ((areAll_impl_isColor.f Ab).bind fun Af => (some Af)) else (some false)) = some r := by rw [if_pos rfl] at H; exact H
   clear H; have H := H1; clear H1
   by_cases c6 : (Ab.length : Int) = (wrap64 (Aa * Ac))
   ·rw [if_pos c6] at H
    have c6b0 : ((Ab.length : Int) == (wrap64 (Aa * Ac))) = true := beq_iff_eq.mpr c6; have c6b1 : ((Ab.length : Int) != (wrap64 (Aa * Ac))) = false := bne_eq_false_iff_eq.mpr c6; clear c6; replace H := Option.bind_eq_some_iff.mp H; obtain ⟨Af, Bu, H⟩ := H; replace H : (some Af) = some r := H; have A7 := Aside0.mk Bu; clear Bu; obtain rfl := Option.some.inj H
    go_enter Try.func66, Try.ntmps66
    go_wp2_with (first | ((with_reducible refine gate_dst (N := 1) rfl ?_); (try (refine gate_guard (by rfl) ?_; dsimp only)); refine bxE 1 #[.int .i64 Aa, .int .i64 Ac, .slice Ah Ab.length Ai] 28 ?_; intro Aj hg w8 hbox hb; have Ad := aM (hbox); have Ak := gwS hg Z0; have Ae := gwS hg Z0; replace HB := hbS Z0 hb; clear hb hbox hg; obtain ⟨Bm, Bn, Bo⟩ := bz3 Ad; obtain ⟨Bp, Bq, Br⟩ := fz3 Ad) | ((with_reducible refine gate_callee (f := 93) rfl ?_); refine glE (some 5) Try.func93 #[.int .i64 Aa] ?_; (with_reducible refine (impl_isSide.calls Aa true _ A2.out).mono ?_); rintro e w' ⟨rfl, ⟨nd, rfl⟩⟩; refine ⟨_, rfl, ?_⟩) | (go_at_call 93; (with_reducible refine (impl_isSide.calls Ac true _ A4.out).mono ?_); rintro e w' ⟨rfl, ⟨nd, rfl⟩⟩) | (go_at_call 94; (with_reducible refine (areAll_impl_isColor.calls _ _ Ab Af _ ?side1 ?side2 A7.out).mono ?_); (case side1 => repeat (first | exact (Kd.C_below Ap.out Z68) | (with_reducible refine Kd.C_alloc ?_ _) | (with_reducible refine Kd.C_drewN ?_ _) | (with_reducible refine Kd.C_drew ?_))); (case side2 => exact Aq.out); rintro e Bv ⟨rfl, hb⟩; replace Ad := bkB Ad hb; replace HB := hbS Z68 hb; (try clear hb)))
    go_ret
    exact ⟨Z9, Z68⟩
   ·rw [if_neg c6] at H
    have c6b0 : ((Ab.length : Int) == (wrap64 (Aa * Ac))) = false := beq_eq_false_iff_ne.mpr c6; have c6b1 : ((Ab.length : Int) != (wrap64 (Aa * Ac))) = true := bne_iff_ne.mpr c6; obtain rfl := Option.some.inj H
    go_enter Try.func66, Try.ntmps66
    go_wp2_with (first | ((with_reducible refine gate_dst (N := 1) rfl ?_); (try (refine gate_guard (by rfl) ?_; dsimp only)); refine bxE 1 #[.int .i64 Aa, .int .i64 Ac, .slice Ah Ab.length Ai] 28 ?_; intro Aj hg Bw hbox hb; have Ad := aM (hbox); have Ak := gwS hg Z0; have Ae := gwS hg Z0; replace HB := hbS Z0 hb; clear hb hbox hg; obtain ⟨Ar, Au, Av⟩ := bz3 Ad; obtain ⟨Aw, Ax, Ay⟩ := fz3 Ad) | ((with_reducible refine gate_callee (f := 93) rfl ?_); refine glE (some 5) Try.func93 #[.int .i64 Aa] ?_; (with_reducible refine (impl_isSide.calls Aa true _ A2.out).mono ?_); rintro e w' ⟨rfl, ⟨nd, rfl⟩⟩; refine ⟨_, rfl, ?_⟩) | (go_at_call 93; (with_reducible refine (impl_isSide.calls Ac true _ A4.out).mono ?_); rintro e w' ⟨rfl, ⟨nd, rfl⟩⟩))
    go_ret
    exact ⟨Z9, Z68⟩
  ·replace c5 := Bool.eq_false_iff.mpr c5
   subst c5
   have H1 : (some false) = some r := by rw [if_neg (show ¬ (false = true) by decide)] at H; exact H
   clear H; have H := H1; clear H1; obtain rfl := Option.some.inj H
   go_enter Try.func66, Try.ntmps66
   go_wp2_with (first | ((with_reducible refine gate_dst (N := 1) rfl ?_); (try (refine gate_guard (by rfl) ?_; dsimp only)); refine bxE 1 #[.int .i64 Aa, .int .i64 Ac, .slice Ah Ab.length Ai] 28 ?_; intro Aj hg Bx hbox hb; have Ad := aM (hbox); have Ak := gwS hg Z0; have Ae := gwS hg Z0; replace HB := hbS Z0 hb; clear hb hbox hg; obtain ⟨Az, Ba, Bb⟩ := bz3 Ad; obtain ⟨Bc, Bd, Bf⟩ := fz3 Ad) | ((with_reducible refine gate_callee (f := 93) rfl ?_); refine glE (some 5) Try.func93 #[.int .i64 Aa] ?_; (with_reducible refine (impl_isSide.calls Aa true _ A2.out).mono ?_); rintro e w' ⟨rfl, ⟨nd, rfl⟩⟩; refine ⟨_, rfl, ?_⟩) | (go_at_call 93; (with_reducible refine (impl_isSide.calls Ac false _ A4.out).mono ?_); rintro e w' ⟨rfl, ⟨nd, rfl⟩⟩))
   go_ret
   exact ⟨Z9, Z68⟩
 ·replace c3 := Bool.eq_false_iff.mpr c3
  subst c3
  have H1 : (some false) = some r := by rw [if_neg (show ¬ (false = true) by decide)] at H; exact H
  clear H; have H := H1; clear H1; obtain rfl := Option.some.inj H
  go_enter Try.func66, Try.ntmps66
  go_wp2_with (first | ((with_reducible refine gate_dst (N := 1) rfl ?_); (try (refine gate_guard (by rfl) ?_; dsimp only)); refine bxE 1 #[.int .i64 Aa, .int .i64 Ac, .slice Ah Ab.length Ai] 28 ?_; intro Aj hg Bz hbox hb; have Ad := aM (hbox); have Ak := gwS hg Z0; have Ae := gwS hg Z0; replace HB := hbS Z0 hb; clear hb hbox hg; obtain ⟨Bg, Bh, Bi⟩ := bz3 Ad; obtain ⟨Bj, Bk, Bl⟩ := fz3 Ad) | ((with_reducible refine gate_callee (f := 93) rfl ?_); refine glE (some 5) Try.func93 #[.int .i64 Aa] ?_; (with_reducible refine (impl_isSide.calls Aa false _ A2.out).mono ?_); rintro e w' ⟨rfl, ⟨nd, rfl⟩⟩; refine ⟨_, rfl, ?_⟩))
  go_ret
  exact ⟨Z9, Z68⟩
end Go.Proofs.Ytcjalfgnnabghaa.H
