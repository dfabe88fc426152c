-- by wip/pack.py of this repo
import Derived.Test.YtplhkmeoeojinaaZ04Hx0
import Derived.Test.YtplhkmeoeojinaaZ04Hx1
import Derived.Test.YtplhkmeoeojinaaZ04WApart
import Derived.Test.YtplhkmeoeojinaaZ04WKept
import Derived.Test.YtplhkmeoeojinaaZ04WLast
import Derived.Test.YtplhkmeoeojinaaZ04WMore
import Derived.Test.YtplhkmeoeojinaaZ04WN
import Derived.Test.YtplhkmeoeojinaaZ04WWords
import Derived.Test.YtplhkmeoeojinaaZ04Short
namespace Go.Proofs.Ytplhkmeoeojinaa.H
open Go.RowKit Go.Proofs.YtplhkmeoeojinaaW.PrintWords Go.Proofs.YtplhkmeoeojinaaW.PrintLast Go.Proofs.YtplhkmeoeojinaaW.PrintMore
attribute [local go_sem] max2_int min2_int max_two min_two max_three min_three max_four min_four
set_option maxHeartbeats 8000000
set_option maxRecDepth 100000
set_option linter.unusedVariables false
set_option linter.unusedSimpArgs false
attribute [local go_sem high] eqA56
def laws_rBig.f (l0 : List Int) : Option (Bool) := some (decide ((l0.length : Int) > 65536))
theorem laws_rBig.calls (A0 : Option Addr) (c0 : Nat) (l0 : List Int) (r : Bool) (w : World) (Aa : Kd.C (Kd.int .u8) w A0 l0.length l0) (Ab : l0.length ≤ c0) (h : laws_rBig.f l0 = some r) :
  Calls Try.prog 24 #[.slice A0 l0.length c0] w fun e w' => e = .returned (.bool r) ∧ Drawn0 w w' := by
 have Ac := Aside0.mk Aa; have Ad := Aside0.mk Ab; clear Aa Ab; have H : (some (decide ((l0.length : Int) > 65536))) = some r := h; clear h; obtain rfl := Option.some.inj H
 go_enter Try.func24, Try.ntmps24
 go_wp2
 go_ret
 exact ⟨Z11, Z42⟩
def laws_rLooms.l0 : Nat → List (S56) → List (S56) → Int → Option (Bool)
 | 0, _, _, _ => none
 | k + 1, x0, x1, x5 => if x5 < (x0.length : Int) then (if 0 ≤ x5 then (if x5 < (x1.length : Int) then (if (!(((rd_T56 x0 x5).f0) == ((rd_T56 x1 x5).f0)) || (!(((rd_T56 x0 x5).f1) == ((rd_T56 x1 x5).f1)) || (!(((rd_T56 x0 x5).f2) == ((rd_T56 x1 x5).f2)) || (!(((rd_T56 x0 x5).f3) == ((rd_T56 x1 x5).f3)) || (!(((rd_T56 x0 x5).f4) == ((rd_T56 x1 x5).f4))))))) = true then (some false) else (laws_rLooms.l0 k x0 x1 (wrap64 (x5 + 1)))) else (none)) else (none)) else (some true)
def laws_rLooms.f (k : Nat) (l0 : List (S56)) (l1 : List (S56)) : Option (Bool) := if (l0.length : Int) = (l1.length : Int) then (laws_rLooms.l0 k l0 l1 0) else (some false)
theorem laws_rLooms.calls (k : Nat) (A0 : Option Addr) (c0 : Nat) (l0 : List (S56)) (A1 : Option Addr) (c1 : Nat) (l1 : List (S56)) (r : Bool) (w : World) (Ap : Kd.C k56 w A0 l0.length l0) (Aq : l0.length ≤ c0) (Ar : Kd.C k56 w A1 l1.length l1) (Au : l1.length ≤ c1) (h : laws_rLooms.f k l0 l1 = some r) :
  Calls Try.prog 28 #[.slice A0 l0.length c0, .slice A1 l1.length c1] w fun e w' => e = .returned (.bool r) ∧ Drawn0 w w' := by
 have hu56 := Try.underlying56; have Av := Aside0.mk Ap; have Ax := Aside0.mk Aq; clear Ap Aq; have Aw := Aside0.mk Ar; have Ay := Aside0.mk Au; clear Ar Au; have H : (if (l0.length : Int) = (l1.length : Int) then (laws_rLooms.l0 k l0 l1 0) else (some false)) = some r := h; clear h
 by_cases c3 : (l0.length : Int) = (l1.length : Int)
 ·rw [if_pos c3] at H
  have c3b0 : ((l0.length : Int) == (l1.length : Int)) = true := beq_iff_eq.mpr c3; have c3b1 : ((l0.length : Int) != (l1.length : Int)) = false := bne_eq_false_iff_eq.mpr c3
  have c3b2 : (l0.length == l1.length) = true := by first | simpa using c3 | (simp at c3 ⊢; omega)
  clear c3; have H' := Aside0.mk H; clear H
  go_enter Try.func28, Try.ntmps28
  go_wp2
  repeat (go_quiet (fail); try go_wp2)
  go_loopg [5] k (fun kq v5 w' => ∃ (Aa : Int), v5 = .int .i64 Aa ∧ Aside0 (laws_rLooms.l0 kq l0 l1 Aa = some r) ∧ Aside0 (kq ≤ k) ∧ Drawn0 w w')
  case atStart => exact ⟨(0), Z11, H', ⟨Nat.le_refl _⟩, Z42⟩
  case round =>
   clear H'; (try clear c1); (try clear c2); (try clear p2); (try clear c3); (try clear c3b0); (try clear c3b1); (try clear c3b2); obtain ⟨Aa, rfl, HA, HK1, ⟨m1, rfl⟩⟩ := hrel; cases gk with
   | zero => exact absurd HA.out (by simp [laws_rLooms.l0])
   | succ k1 =>
    have H := HA.out; clear HA
    simp only [laws_rLooms.l0] at H
    by_cases c4 : Aa < (l0.length : Int)
    ·rw [if_pos c4] at H
     have c4b0 : decide (Aa < (l0.length : Int)) = true := decide_eq_true c4; clear c4
     by_cases c5 : 0 ≤ Aa
     ·rw [if_pos c5] at H
      have c5b0 : decide (0 ≤ Aa) = true := decide_eq_true c5; clear c5
      by_cases c6 : Aa < (l1.length : Int)
      ·rw [if_pos c6] at H
       have c6b0 : decide (Aa < (l1.length : Int)) = true := decide_eq_true c6; clear c6
       by_cases c7 : (!(((rd_T56 l0 Aa).f0) == ((rd_T56 l1 Aa).f0)) || (!(((rd_T56 l0 Aa).f1) == ((rd_T56 l1 Aa).f1)) || (!(((rd_T56 l0 Aa).f2) == ((rd_T56 l1 Aa).f2)) || (!(((rd_T56 l0 Aa).f3) == ((rd_T56 l1 Aa).f3)) || (!(((rd_T56 l0 Aa).f4) == ((rd_T56 l1 Aa).f4))))))) = true
       ·rw [if_pos c7] at H
        have c7b0 : (!(((rd_T56 l0 Aa).f0) == ((rd_T56 l1 Aa).f0)) || (!(((rd_T56 l0 Aa).f1) == ((rd_T56 l1 Aa).f1)) || (!(((rd_T56 l0 Aa).f2) == ((rd_T56 l1 Aa).f2)) || (!(((rd_T56 l0 Aa).f3) == ((rd_T56 l1 Aa).f3)) || (!(((rd_T56 l0 Aa).f4) == ((rd_T56 l1 Aa).f4))))))) = true := c7; clear c7; obtain rfl := Option.some.inj H; have Ab : 0 ≤ (Aa : Int) := of_decide_eq_true Z3; have Ac : Aa < (l0.length : Int) := of_decide_eq_true Z3; obtain ⟨ad101, e101, Af, Ag, Ah, Ai, Aj⟩ := at_T56 Av.out Aa Ab Ac; cases e101; replace Ab := eq_true Ab; replace Ac := eq_true Ac; have Ad : 0 ≤ (Aa : Int) := of_decide_eq_true Z3; have Ae : Aa < (l1.length : Int) := of_decide_eq_true Z3; obtain ⟨ad102, e102, Ak, Al, Am, An, Ao⟩ := at_T56 Aw.out Aa Ad Ae; cases e102; replace Ad := eq_true Ad; replace Ae := eq_true Ae
        go_wp2
        repeat (go_quiet (fail); try go_wp2)
        go_ret
        exact ⟨Z11, Z42⟩
       ·rw [if_neg c7] at H
        have c7b0 : (!(((rd_T56 l0 Aa).f0) == ((rd_T56 l1 Aa).f0)) || (!(((rd_T56 l0 Aa).f1) == ((rd_T56 l1 Aa).f1)) || (!(((rd_T56 l0 Aa).f2) == ((rd_T56 l1 Aa).f2)) || (!(((rd_T56 l0 Aa).f3) == ((rd_T56 l1 Aa).f3)) || (!(((rd_T56 l0 Aa).f4) == ((rd_T56 l1 Aa).f4))))))) = false := by simpa using c7
        clear c7; have H' := Aside0.mk H; clear H; have Ab : 0 ≤ (Aa : Int) := of_decide_eq_true Z3; have Ac : Aa < (l0.length : Int) := of_decide_eq_true Z3; obtain ⟨ad101, e101, Af, Ag, Ah, Ai, Aj⟩ := at_T56 Av.out Aa Ab Ac; cases e101; replace Ab := eq_true Ab; replace Ac := eq_true Ac; have Ad : 0 ≤ (Aa : Int) := of_decide_eq_true Z3; have Ae : Aa < (l1.length : Int) := of_decide_eq_true Z3; obtain ⟨ad102, e102, Ak, Al, Am, An, Ao⟩ := at_T56 Aw.out Aa Ad Ae; cases e102; replace Ad := eq_true Ad; replace Ae := eq_true Ae
        go_wp2
        repeat (go_quiet (fail); try go_wp2)
        go_roundg k1
        case measure => have := HK1.out; omega
        case rel => exact ⟨(wrap64 (Aa + 1)), Z11, H', ⟨Z68⟩, Z42⟩
      ·rw [if_neg c6] at H
       exact absurd H (by simp)
     ·rw [if_neg c5] at H
      exact absurd H (by simp)
    ·rw [if_neg c4] at H
     have c4b0 : decide (Aa < (l0.length : Int)) = false := decide_eq_false c4; clear c4; obtain rfl := Option.some.inj H
     go_wp2
     repeat (go_quiet (fail); try go_wp2)
     go_ret
     exact ⟨Z11, Z42⟩
 ·rw [if_neg c3] at H
  have c3b0 : ((l0.length : Int) == (l1.length : Int)) = false := beq_eq_false_iff_ne.mpr c3; have c3b1 : ((l0.length : Int) != (l1.length : Int)) = true := bne_iff_ne.mpr c3
  have c3b2 : (l0.length == l1.length) = false := by first | simpa using c3 | (simp at c3 ⊢; omega)
  obtain rfl := Option.some.inj H
  go_enter Try.func28, Try.ntmps28
  go_wp2
  repeat (go_quiet (fail); try go_wp2)
  go_ret
  exact ⟨Z11, Z42⟩
def impl_in.f (a0 : Int) (a1 : Int) (a2 : Int) : Option (Bool) := if a0 ≥ a1 then (some (decide (a0 ≤ a2))) else (some false)
theorem impl_in.calls (a0 : Int) (a1 : Int) (a2 : Int) (r : Bool) (w : World) (h : impl_in.f a0 a1 a2 = some r) :
  Calls Try.prog 68 #[.int .i64 a0, .int .i64 a1, .int .i64 a2] w fun e w' => e = .returned (.bool r) ∧ Drawn0 w w' := by
 have H : (if a0 ≥ a1 then (some (decide (a0 ≤ a2))) else (some false)) = some r := h; clear h
 by_cases c4 : a0 ≥ a1
 ·rw [if_pos c4] at H
  have c4b0 : decide (a1 ≤ a0) = true := decide_eq_true c4; clear c4; obtain rfl := Option.some.inj H
  go_enter Try.func68, Try.ntmps68
  go_wp2
  go_ret
  exact ⟨Z11, Z42⟩
 ·rw [if_neg c4] at H
  have c4b0 : decide (a1 ≤ a0) = false := decide_eq_false c4; clear c4; obtain rfl := Option.some.inj H
  go_enter Try.func68, Try.ntmps68
  go_wp2
  go_ret
  exact ⟨Z11, Z42⟩
theorem impl_in.eq (a b c : Int) : impl_in.f a b c = some (rng a b c) := by
 unfold impl_in.f rng; by_cases h : b ≤ a <;> simp [h]
def impl_isWide.f (a0 : Int) : Option (Bool) := (impl_in.f a0 30 600).bind fun t103 => (some t103)
theorem impl_isWide.calls (a0 : Int) (r : Bool) (w : World) (h : impl_isWide.f a0 = some r) :
  Calls Try.prog 79 #[.int .i64 a0] w fun e w' => e = .returned (.bool r) ∧ Drawn0 w w' := by
 have H : ((impl_in.f a0 30 600).bind fun Aa => (some Aa)) = some r := h; clear h; replace H := Option.bind_eq_some_iff.mp H; obtain ⟨Aa, Ab, H⟩ := H; replace H : (some Aa) = some r := H; have A2 := Aside0.mk Ab; clear Ab; obtain rfl := Option.some.inj H
 go_enter Try.func79, Try.ntmps79
 go_wp2_with (first | ((with_reducible refine gate_callee (f := 68) rfl ?_); refine glE (some 4) Try.func68 #[.int .i64 a0, .int .i64 30, .int .i64 600] ?_; (with_reducible refine (impl_in.calls a0 30 600 Aa _ A2.out).mono ?_); rintro e w' ⟨rfl, ⟨nd, rfl⟩⟩; refine ⟨_, rfl, ?_⟩))
 go_ret
 exact ⟨Z11, Z42⟩
def impl_isId.f (a0 : Int) : Option (Bool) := (impl_in.f a0 1 99).bind fun t104 => (some t104)
theorem impl_isId.calls (a0 : Int) (r : Bool) (w : World) (h : impl_isId.f a0 = some r) :
  Calls Try.prog 89 #[.int .i64 a0] w fun e w' => e = .returned (.bool r) ∧ Drawn0 w w' := by
 have H : ((impl_in.f a0 1 99).bind fun Aa => (some Aa)) = some r := h; clear h; replace H := Option.bind_eq_some_iff.mp H; obtain ⟨Aa, Ab, H⟩ := H; replace H : (some Aa) = some r := H; have A2 := Aside0.mk Ab; clear Ab; obtain rfl := Option.some.inj H
 go_enter Try.func89, Try.ntmps89
 go_wp2_with (first | ((with_reducible refine gate_callee (f := 68) rfl ?_); refine glE (some 4) Try.func68 #[.int .i64 a0, .int .i64 1, .int .i64 99] ?_; (with_reducible refine (impl_in.calls a0 1 99 Aa _ A2.out).mono ?_); rintro e w' ⟨rfl, ⟨nd, rfl⟩⟩; refine ⟨_, rfl, ?_⟩))
 go_ret
 exact ⟨Z11, Z42⟩
def impl_IsLoom.j0 : Nat → Bool → Int → Int → Int → Int → Int → Option (Bool)
 | 0, _, _, _, _, _, _ => none
 | k + 1, x24, x106000, x106001, x106002, x106003, x106004 => if x24 = true then (some false) else (if x106004 = 0 then (if x106002 = 0 then (some (x106003 == 0)) else (some false)) else (if x106004 = 1 then ((impl_in.f x106002 10 (wrap64 (12 * x106001))).bind fun t110 => (if t110 = true then (some (decide (x106003 ≥ 50))) else (some false))) else (if x106004 = 2 then ((impl_in.f x106002 10 (wrap64 (12 * x106001))).bind fun t111 => (if t111 = true then (some (decide (x106003 ≥ 50))) else (some false))) else (some (x106004 == 3)))))
def impl_IsLoom.f (k : Nat) (a0_0 : Int) (a0_1 : Int) (a0_2 : Int) (a0_3 : Int) (a0_4 : Int) : Option (Bool) := (impl_isId.f a0_0).bind fun t106 => (if t106 = true then ((impl_isWide.f a0_1).bind fun t107 => (if t107 = true then ((impl_in.f a0_2 0 4000).bind fun t108 => (if t108 = true then ((impl_in.f a0_3 0 500).bind fun t109 => (impl_IsLoom.j0 k (!t109) a0_0 a0_1 a0_2 a0_3 a0_4)) else (impl_IsLoom.j0 k true a0_0 a0_1 a0_2 a0_3 a0_4))) else (impl_IsLoom.j0 k true a0_0 a0_1 a0_2 a0_3 a0_4))) else (impl_IsLoom.j0 k true a0_0 a0_1 a0_2 a0_3 a0_4))
theorem impl_IsLoom.calls (k : Nat) (Af : Int) (Ac : Int) (Aa : Int) (Ad : Int) (Ab : Int) (r : Bool) (w : World) (h : impl_IsLoom.f k Af Ac Aa Ad Ab = some r) :
  Calls Try.prog 51 #[.agg #[.int .i64 Af, .int .i64 Ac, .int .i64 Aa, .int .i64 Ad, .int .i64 Ab]] w fun e w' => e = .returned (.bool r) ∧ Below w.heap.size w w' := by
 have hu56 := Try.underlying56; have HB := aM (Below.refl w.heap.size w); have H : ((impl_isId.f Af).bind fun Al => (if Al = true then ((impl_isWide.f Ac).bind fun Aj => (if Aj = true then ((impl_in.f Aa 0 4000).bind fun Ai => (if Ai = true then ((impl_in.f Ad 0 500).bind fun Ah => (impl_IsLoom.j0 k (!Ah) Af Ac Aa Ad Ab)) else (impl_IsLoom.j0 k true Af Ac Aa Ad Ab))) else (impl_IsLoom.j0 k true Af Ac Aa Ad Ab))) else (impl_IsLoom.j0 k true Af Ac Aa Ad Ab))) = some r := h; clear h; have Eh := Aside0.mk H; clear H
 go_enter Try.func51, Try.ntmps51
 go_upto_region 1 with (first | ((with_reducible refine gate_dst (N := 1) rfl ?_); refine bxE 1 #[.int .i64 Af, .int .i64 Ac, .int .i64 Aa, .int .i64 Ad, .int .i64 Ab] 56 ?_; intro Cb hg w3 hbox hb; have Ae := aM (hbox); have Ei := gwS hg Z0; have Ag := gwS hg Z0; replace HB := hbS Z0 hb; clear hb hbox hg))
 (try simp only [Act.put, List.setIfInBounds_toArray, List.set_cons_zero, List.set_cons_succ])
 go_cut [24] (fun Eo wc => ∃ (kq : Nat) (Ak : Bool), Eo = .bool Ak ∧ Aside0 (impl_IsLoom.j0 kq Ak Af Ac Aa Ad Ab = some r) ∧ Aside0 (kq ≤ k) ∧ Aside0 (wc.heap[Cb]? = some (.cells #[.int .i64 Af, .int .i64 Ac, .int .i64 Aa, .int .i64 Ad, .int .i64 Ab] 56 (0, 0))) ∧ Aside0 (Below w.heap.size w wc))
 case first =>
  have H := Eh.out; clear Eh; replace H := Option.bind_eq_some_iff.mp H; obtain ⟨Al, Ej, H⟩ := H; replace H : (if Al = true then ((impl_isWide.f Ac).bind fun Aj => (if Aj = true then ((impl_in.f Aa 0 4000).bind fun Ai => (if Ai = true then ((impl_in.f Ad 0 500).bind fun Ah => (impl_IsLoom.j0 k (!Ah) Af Ac Aa Ad Ab)) else (impl_IsLoom.j0 k true Af Ac Aa Ad Ab))) else (impl_IsLoom.j0 k true Af Ac Aa Ad Ab))) else (impl_IsLoom.j0 k true Af Ac Aa Ad Ab)) = some r := H; have A4 := Aside0.mk Ej; clear Ej
  by_cases c5 : Al = true
  ·subst c5
   have H1 : ((impl_isWide.f Ac).bind fun Aj => (if Aj = true then ((impl_in.f Aa 0 4000).bind fun Ai => (if Ai = true then ((impl_in.f Ad 0 500).bind fun Ah => (impl_IsLoom.j0 k (!Ah) Af Ac Aa Ad Ab)) else (impl_IsLoom.j0 k true Af Ac Aa Ad Ab))) else (impl_IsLoom.j0 k true Af Ac Aa Ad Ab))) = some r := by rw [if_pos rfl] at H; exact H
   clear H; have H := H1; clear H1; replace H := Option.bind_eq_some_iff.mp H; obtain ⟨Aj, Ek, H⟩ := H; replace H : (if Aj = true then ((impl_in.f Aa 0 4000).bind fun Ai => (if Ai = true then ((impl_in.f Ad 0 500).bind fun Ah => (impl_IsLoom.j0 k (!Ah) Af Ac Aa Ad Ab)) else (impl_IsLoom.j0 k true Af Ac Aa Ad Ab))) else (impl_IsLoom.j0 k true Af Ac Aa Ad Ab)) = some r := H; have A6 := Aside0.mk Ek; clear Ek
   by_cases c7 : Aj = true
   ·subst c7
    have H1 : ((impl_in.f Aa 0 4000).bind fun Ai => (if Ai = true then ((impl_in.f Ad 0 500).bind fun Ah => (impl_IsLoom.j0 k (!Ah) Af Ac Aa Ad Ab)) else (impl_IsLoom.j0 k true Af Ac Aa Ad Ab))) = some r := by rw [if_pos rfl] at H; exact H
    clear H; have H := H1; clear H1; replace H := Option.bind_eq_some_iff.mp H; obtain ⟨Ai, El, H⟩ := H; replace H : (if Ai = true then ((impl_in.f Ad 0 500).bind fun Ah => (impl_IsLoom.j0 k (!Ah) Af Ac Aa Ad Ab)) else (impl_IsLoom.j0 k true Af Ac Aa Ad Ab)) = some r := H; have A8 := Aside0.mk El; clear El
    by_cases c9 : Ai = true
    ·subst c9
     have H1 : ((impl_in.f Ad 0 500).bind fun Ah => (impl_IsLoom.j0 k (!Ah) Af Ac Aa Ad Ab)) = some r := by rw [if_pos rfl] at H; exact H
     clear H; have H := H1; clear H1; replace H := Option.bind_eq_some_iff.mp H; obtain ⟨Ah, Cc, H⟩ := H; replace H : (impl_IsLoom.j0 k (!Ah) Af Ac Aa Ad Ab) = some r := H; have Ep := Aside0.mk Cc; clear Cc; have H' := Aside0.mk H; clear H; obtain ⟨Am, An, Ao, Ap, Aq⟩ := bz5 Ae; obtain ⟨Ar, Au, Av, Aw, Ax⟩ := fz5 Ae
     go_wp2_with (first | ((with_reducible refine gate_callee (f := 89) rfl ?_); refine glE (some 5) Try.func89 #[.int .i64 Af] ?_; (with_reducible refine (impl_isId.calls Af true _ A4.out).mono ?_); rintro e w' ⟨rfl, ⟨nd, rfl⟩⟩; refine ⟨_, rfl, ?_⟩) | (go_at_call 79; (with_reducible refine (impl_isWide.calls Ac true _ A6.out).mono ?_); rintro e w' ⟨rfl, ⟨nd, rfl⟩⟩) | (go_at_call 68; (with_reducible refine (impl_in.calls Aa 0 4000 true _ A8.out).mono ?_); rintro e w' ⟨rfl, ⟨nd, rfl⟩⟩) | (go_at_call 68; (with_reducible refine (impl_in.calls Ad 0 500 Ah _ Ep.out).mono ?_); rintro e w' ⟨rfl, ⟨nd, rfl⟩⟩))
     go_meet
     case rel => exact ⟨_, (!Ah), Z11, H', ⟨Z66⟩, ⟨Z15⟩, ⟨Z10⟩⟩
    ·replace c9 := Bool.eq_false_iff.mpr c9
     subst c9
     have H1 : (impl_IsLoom.j0 k true Af Ac Aa Ad Ab) = some r := by rw [if_neg (show ¬ (false = true) by decide)] at H; exact H
     clear H; have H := H1; clear H1; have H' := Aside0.mk H; clear H; obtain ⟨Ay, Az, Ba, Bb, Bc⟩ := bz5 Ae; obtain ⟨Bd, Bf, Bg, Bh, Bi⟩ := fz5 Ae
     go_wp2_with (first | ((with_reducible refine gate_callee (f := 89) rfl ?_); refine glE (some 5) Try.func89 #[.int .i64 Af] ?_; (with_reducible refine (impl_isId.calls Af true _ A4.out).mono ?_); rintro e w' ⟨rfl, ⟨nd, rfl⟩⟩; refine ⟨_, rfl, ?_⟩) | (go_at_call 79; (with_reducible refine (impl_isWide.calls Ac true _ A6.out).mono ?_); rintro e w' ⟨rfl, ⟨nd, rfl⟩⟩) | (go_at_call 68; (with_reducible refine (impl_in.calls Aa 0 4000 false _ A8.out).mono ?_); rintro e w' ⟨rfl, ⟨nd, rfl⟩⟩))
     go_meet
     case rel => exact ⟨_, (true), Z11, H', ⟨Z66⟩, ⟨Z15⟩, ⟨Z10⟩⟩
   ·replace c7 := Bool.eq_false_iff.mpr c7
    subst c7
    have H1 : (impl_IsLoom.j0 k true Af Ac Aa Ad Ab) = some r := by rw [if_neg (show ¬ (false = true) by decide)] at H; exact H
    clear H; have H := H1; clear H1; have H' := Aside0.mk H; clear H; obtain ⟨Bj, Bk, Bl, Bm, Bn⟩ := bz5 Ae; obtain ⟨Bo, Bp, Bq, Br, Bs⟩ := fz5 Ae
    go_wp2_with (first | ((with_reducible refine gate_callee (f := 89) rfl ?_); refine glE (some 5) Try.func89 #[.int .i64 Af] ?_; (with_reducible refine (impl_isId.calls Af true _ A4.out).mono ?_); rintro e w' ⟨rfl, ⟨nd, rfl⟩⟩; refine ⟨_, rfl, ?_⟩) | (go_at_call 79; (with_reducible refine (impl_isWide.calls Ac false _ A6.out).mono ?_); rintro e w' ⟨rfl, ⟨nd, rfl⟩⟩))
    go_meet
    case rel => exact ⟨_, (true), Z11, H', ⟨Z66⟩, ⟨Z15⟩, ⟨Z10⟩⟩
  ·replace c5 := Bool.eq_false_iff.mpr c5
   subst c5
   have H1 : (impl_IsLoom.j0 k true Af Ac Aa Ad Ab) = some r := by rw [if_neg (show ¬ (false = true) by decide)] at H; exact H
   clear H; have H := H1; clear H1; have H' := Aside0.mk H; clear H; obtain ⟨Bt, Bu, Bv, Bw, Bx⟩ := bz5 Ae; obtain ⟨Bz, B0, B1, B2, B3⟩ := fz5 Ae
   go_wp2_with (first | ((with_reducible refine gate_callee (f := 89) rfl ?_); refine glE (some 5) Try.func89 #[.int .i64 Af] ?_; (with_reducible refine (impl_isId.calls Af false _ A4.out).mono ?_); rintro e w' ⟨rfl, ⟨nd, rfl⟩⟩; refine ⟨_, rfl, ?_⟩))
   go_meet
   case rel => exact ⟨_, (true), Z11, H', ⟨Z66⟩, ⟨Z15⟩, ⟨Z10⟩⟩
 case rest =>
  clear Eh; (try clear p2); (try clear c5); (try clear c7); (try clear c8); (try clear c9); (try clear Am); (try clear An); (try clear Ao); (try clear Ap); (try clear Aq); (try clear Ay); (try clear Az); (try clear Ba); (try clear Bb); (try clear Bc); (try clear Bj); (try clear Bk); (try clear Bl); (try clear Bm); (try clear Bn); (try clear Bt); (try clear Bu); (try clear Bv); (try clear Bw); (try clear Bx); (try clear Ar); (try clear Au); (try clear Av); (try clear Aw); (try clear Ax); (try clear Bd); (try clear Bf); (try clear Bg); (try clear Bh); (try clear Bi); (try clear Bo); (try clear Bp); (try clear Bq); (try clear Br); (try clear Bs); (try clear Bz); (try clear B0); (try clear B1); (try clear B2); (try clear B3); obtain ⟨kq, Ak, rfl, HA, HJ1, Ae, HB⟩ := hcut; cases kq with
  | zero => exact absurd HA.out (by simp [impl_IsLoom.j0])
  | succ Er =>
   have H := HA.out; clear HA
   simp only [impl_IsLoom.j0] at H
   by_cases Cf : Ak = true
   ·subst Cf
    have H1 : (some false) = some r := by rw [if_pos rfl] at H; exact H
    clear H; have H := H1; clear H1; obtain rfl := Option.some.inj H
    go_wp2
    go_ret
    exact ⟨Z7, Z10⟩
   ·replace Cf := Bool.eq_false_iff.mpr Cf
    subst Cf
    have H1 : (if Ab = 0 then (if Aa = 0 then (some (Ad == 0)) else (some false)) else (if Ab = 1 then ((impl_in.f Aa 10 (wrap64 (12 * Ac))).bind fun B5 => (if B5 = true then (some (decide (Ad ≥ 50))) else (some false))) else (if Ab = 2 then ((impl_in.f Aa 10 (wrap64 (12 * Ac))).bind fun B6 => (if B6 = true then (some (decide (Ad ≥ 50))) else (some false))) else (some (Ab == 3))))) = some r := by rw [if_neg (show ¬ (false = true) by decide)] at H; exact H
    clear H; have H := H1; clear H1
    by_cases B7 : Ab = 0
    ·rw [if_pos B7] at H
     have c16b0 : (Ab == 0) = true := beq_iff_eq.mpr B7; have c16b1 : (Ab != 0) = false := bne_eq_false_iff_eq.mpr B7; clear B7
     by_cases B8 : Aa = 0
     ·rw [if_pos B8] at H
      have c17b0 : (Aa == 0) = true := beq_iff_eq.mpr B8; have c17b1 : (Aa != 0) = false := bne_eq_false_iff_eq.mpr B8; clear B8; obtain rfl := Option.some.inj H; obtain ⟨Cg, Ch, Ci, Cj, Ck⟩ := bz5 Ae; obtain ⟨Cl, Cm, Cn, Co, Cp⟩ := fz5 Ae
      go_wp2
      go_ret
      exact ⟨Z7, Z10⟩
     ·rw [if_neg B8] at H
      have c17b0 : (Aa == 0) = false := beq_eq_false_iff_ne.mpr B8; have c17b1 : (Aa != 0) = true := bne_iff_ne.mpr B8; obtain rfl := Option.some.inj H; obtain ⟨Cq, Cr, Cs, Ct, Cu⟩ := bz5 Ae; obtain ⟨Cv, Cw, Cx, Cy, Cz⟩ := fz5 Ae
      go_wp2
      go_ret
      exact ⟨Z7, Z10⟩
    ·rw [if_neg B7] at H
     have c16b0 : (Ab == 0) = false := beq_eq_false_iff_ne.mpr B7; have c16b1 : (Ab != 0) = true := bne_iff_ne.mpr B7
     by_cases B9 : Ab = 1
     ·rw [if_pos B9] at H
      have c20b0 : (Ab == 1) = true := beq_iff_eq.mpr B9; have c20b1 : (Ab != 1) = false := bne_eq_false_iff_eq.mpr B9; clear B9; replace H := Option.bind_eq_some_iff.mp H; obtain ⟨B5, Cd, H⟩ := H; replace H : (if B5 = true then (some (decide (Ad ≥ 50))) else (some false)) = some r := H; have Em := Aside0.mk Cd; clear Cd
      by_cases C0 : B5 = true
      ·subst C0
       have H1 : (some (decide (Ad ≥ 50))) = some r := by rw [if_pos rfl] at H; exact H
       clear H; have H := H1; clear H1; obtain rfl := Option.some.inj H; obtain ⟨C1, C2, C3, C4, C5⟩ := bz5 Ae; obtain ⟨C6, C7, C8, C9, Da⟩ := fz5 Ae
       go_wp2_with (first | ((with_reducible refine gate_callee (f := 68) rfl ?_); refine glE (some 45) Try.func68 #[.int .i64 Aa, .int .i64 10, .int .i64 (wrap64 (12 * Ac))] ?_; (with_reducible refine (impl_in.calls Aa 10 (wrap64 (12 * Ac)) true _ Em.out).mono ?_); rintro e w' ⟨rfl, ⟨nd, rfl⟩⟩; refine ⟨_, rfl, ?_⟩))
       go_ret
       exact ⟨Z7, Z10⟩
      ·replace C0 := Bool.eq_false_iff.mpr C0
       subst C0
       have H1 : (some false) = some r := by rw [if_neg (show ¬ (false = true) by decide)] at H; exact H
       clear H; have H := H1; clear H1; obtain rfl := Option.some.inj H; obtain ⟨Db, Dc, Dd, De, Df⟩ := bz5 Ae; obtain ⟨Dg, Dh, Di, Dj, Dk⟩ := fz5 Ae
       go_wp2_with (first | ((with_reducible refine gate_callee (f := 68) rfl ?_); refine glE (some 45) Try.func68 #[.int .i64 Aa, .int .i64 10, .int .i64 (wrap64 (12 * Ac))] ?_; (with_reducible refine (impl_in.calls Aa 10 (wrap64 (12 * Ac)) false _ Em.out).mono ?_); rintro e w' ⟨rfl, ⟨nd, rfl⟩⟩; refine ⟨_, rfl, ?_⟩))
       go_ret
       exact ⟨Z7, Z10⟩
     ·rw [if_neg B9] at H
      have c20b0 : (Ab == 1) = false := beq_eq_false_iff_ne.mpr B9; have c20b1 : (Ab != 1) = true := bne_iff_ne.mpr B9
      by_cases Ca : Ab = 2
      ·rw [if_pos Ca] at H
       have c25b0 : (Ab == 2) = true := beq_iff_eq.mpr Ca; have c25b1 : (Ab != 2) = false := bne_eq_false_iff_eq.mpr Ca; clear Ca; replace H := Option.bind_eq_some_iff.mp H; obtain ⟨B6, Ce, H⟩ := H; replace H : (if B6 = true then (some (decide (Ad ≥ 50))) else (some false)) = some r := H; have En := Aside0.mk Ce; clear Ce
       by_cases Dl : B6 = true
       ·subst Dl
        have H1 : (some (decide (Ad ≥ 50))) = some r := by rw [if_pos rfl] at H; exact H
        clear H; have H := H1; clear H1; obtain rfl := Option.some.inj H; obtain ⟨Dm, Dn, Dp, Dq, Dr⟩ := bz5 Ae; obtain ⟨Ds, Dt, Du, Dv, Dw⟩ := fz5 Ae
        go_wp2_with (first | ((with_reducible refine gate_callee (f := 68) rfl ?_); refine glE (some 45) Try.func68 #[.int .i64 Aa, .int .i64 10, .int .i64 (wrap64 (12 * Ac))] ?_; (with_reducible refine (impl_in.calls Aa 10 (wrap64 (12 * Ac)) true _ En.out).mono ?_); rintro e w' ⟨rfl, ⟨nd, rfl⟩⟩; refine ⟨_, rfl, ?_⟩))
        go_ret
        exact ⟨Z7, Z10⟩
       ·replace Dl := Bool.eq_false_iff.mpr Dl
        subst Dl
        have H1 : (some false) = some r := by rw [if_neg (show ¬ (false = true) by decide)] at H; exact H
        clear H; have H := H1; clear H1; obtain rfl := Option.some.inj H; obtain ⟨Dx, Dy, Dz, D0, D1⟩ := bz5 Ae; obtain ⟨D2, D3, D4, D5, D6⟩ := fz5 Ae
        go_wp2_with (first | ((with_reducible refine gate_callee (f := 68) rfl ?_); refine glE (some 45) Try.func68 #[.int .i64 Aa, .int .i64 10, .int .i64 (wrap64 (12 * Ac))] ?_; (with_reducible refine (impl_in.calls Aa 10 (wrap64 (12 * Ac)) false _ En.out).mono ?_); rintro e w' ⟨rfl, ⟨nd, rfl⟩⟩; refine ⟨_, rfl, ?_⟩))
        go_ret
        exact ⟨Z7, Z10⟩
      ·rw [if_neg Ca] at H
       have c25b0 : (Ab == 2) = false := beq_eq_false_iff_ne.mpr Ca; have c25b1 : (Ab != 2) = true := bne_iff_ne.mpr Ca; obtain rfl := Option.some.inj H; obtain ⟨D7, D8, D9, Ea, Eb⟩ := bz5 Ae; obtain ⟨Ec, Ed, Ee, Ef, Eg⟩ := fz5 Ae
       go_wp2
       go_ret
       exact ⟨Z7, Z10⟩
set_option maxHeartbeats 4000000 in
theorem IndexFunc_lm (p : S56 → Bool) (g : Nat) (lb : Array Value) (A : Option Addr) (c : Nat) (xs : List S56) (w : World)
  (eg : ∀ args w, (callFunc g args).run Try.prog w = .ok (.enter g args) w) (hr : Kd.C k56 w A xs.length xs)
  (hp : ∀ (W : World) (x : S56), Below w.heap.size w W → Calls Try.prog g (#[.agg #[.int .i64 x.f0, .int .i64 x.f1, .int .i64 x.f2, .int .i64 x.f3, .int .i64 x.f4]] ++ lb) W fun e w' => e = .returned (.bool (p x)) ∧ Below W.heap.size W w') :
  Calls Try.prog 102 #[.slice A xs.length c, .func (.func g) #[] lb] w fun e w' => e = .returned (.int .i64 (findI p xs)) ∧ Below w.heap.size w w' := by
 have hu_ := Try.underlying56; have hlen := Aside0.mk hr.2.1; have HR := Aside0.mk hr; have HP := Aside0.mk hp; clear hr hp
 go_enter Try.func102, Try.ntmps102
 go_wp2
 go_loopg [5, 8] xs.length (fun gg _ s8 wr => ∃ x : Int, s8 = .int .i64 x ∧ Aside0 (0 ≤ x ∧ x ≤ (xs.length : Int) ∧ (xs.length : Int) - x ≤ gg) ∧ Aside0 (Below w.heap.size w wr) ∧ Aside0 (∀ j : Nat, (j : Int) < x → p (xs.getD j z56) = false))
 case atStart => exact ⟨0, rfl, ⟨by omega, by omega, by omega⟩, ⟨Below.refl _ _⟩, ⟨fun j hj => absurd hj (by omega)⟩⟩
 case round =>
  obtain ⟨x, rfl, HX, BW, HA⟩ := hrel
  by_cases hlt : x < (xs.length : Int)
  ·have c0 : decide (x < (xs.length : Int)) = true := decide_eq_true hlt
   obtain ⟨ad, e0, Aa, Ab, Ac, Ad, Ae⟩ := at_T56 (Kd.C_below HR.out BW.out) x HX.out.1 hlt; cases e0; have c1 : decide (0 ≤ x) = true := decide_eq_true HX.out.1; have p0 := eq_true HX.out.1; have p1 := eq_true hlt; have HL := Aside0.mk hlt; clear hlt; have hcall := HP.out _ (rd_T56 xs x) BW.out; have hget : Aside0 (xs.getD x.toNat z56 = (rd_T56 xs x)) := ⟨rfl⟩; cases hq : p (rd_T56 xs x) with
   | true =>
    rw [hq] at hcall; have HQ := Aside0.mk hq; have HC := Aside0.mk hcall; clear hq hcall
    go_wp2_with fail
    refine HC.out.mono ?_; rintro e w' ⟨rfl, hb'⟩; have HB := aM (below_step BW.out hb'); clear hb'
    go_wp2
    go_ret
    refine ⟨?_, HB.out⟩; rw [findI_hit p z56 xs x.toNat Z98 (fun j hj => HA.out j Z100) (by rw [hget.out]; exact HQ.out)]; rw [Int.toNat_of_nonneg HX.out.1]
    rfl
   | false =>
    rw [hq] at hcall; have HQ := Aside0.mk hq; have HC := Aside0.mk hcall; clear hq hcall
    go_wp2_with fail
    refine HC.out.mono ?_; rintro e w' ⟨rfl, hb'⟩; have HB := aM (below_step BW.out hb'); clear hb'
    go_wp2
    have hw1 : wrap64 (x + 1) = x + 1 := by have := HX.out; have := HL.out; have := hlen.out; unfold wrap64; omega
    go_roundg (xs.length - (x.toNat + 1))
    case measure => have := HX.out; have := HL.out; omega
    case rel =>
     refine ⟨x + 1, Z101, ⟨Z100, Z102, Z98⟩, HB, ⟨fun j hj => ?_⟩⟩
     by_cases e : (j : Int) < x
     ·exact HA.out j e
     ·have hj' : j = x.toNat := by have := HX.out; omega
      subst hj'; rw [hget.out]
      exact HQ.out
  ·have c0 : decide (x < (xs.length : Int)) = false := decide_eq_false hlt
   have HL := Aside0.mk hlt; clear hlt
   go_wp2
   go_ret
   refine ⟨?_, BW.out⟩; rw [findI_miss p z56 xs (fun j hj => HA.out j Z102)]
   rfl
set_option maxHeartbeats 4000000 in
theorem ContainsFunc_lm (p : S56 → Bool) (g : Nat) (lb : Array Value) (A : Option Addr) (c : Nat) (xs : List S56) (w : World)
  (eg : ∀ args w, (callFunc g args).run Try.prog w = .ok (.enter g args) w) (hr : Kd.C k56 w A xs.length xs)
  (hp : ∀ (W : World) (x : S56), Below w.heap.size w W → Calls Try.prog g (#[.agg #[.int .i64 x.f0, .int .i64 x.f1, .int .i64 x.f2, .int .i64 x.f3, .int .i64 x.f4]] ++ lb) W fun e w' => e = .returned (.bool (p x)) ∧ Below W.heap.size W w') :
  Calls Try.prog 105 #[.slice A xs.length c, .func (.func g) #[] lb] w fun e w' => e = .returned (.bool (xs.any p)) ∧ Below w.heap.size w w' := by
 have HC := aM (IndexFunc_lm p g lb A c xs w eg hr hp); clear hr hp eg; rw [← findI_any]
 go_enter Try.func105, Try.ntmps105
 go_wp2_with fail
 refine HC.out.mono ?_; rintro e w' ⟨rfl, hb'⟩
 go_wp2
 go_ret
 exact ⟨Z84, hb'⟩
set_option maxHeartbeats 4000000 in
theorem areAll_lm_1 (p : S56 → Bool) (g : Nat) (lb : Array Value) (b : Nat) (x : S56) (W : World)
  (eg : ∀ args w, (callFunc g args).run Try.prog w = .ok (.enter g args) w) (hc : W.cell? ⟨b, 0, none⟩ = some (.func (.func g) #[] lb))
  (hp : ∀ W1, Below W.heap.size W W1 → Calls Try.prog g (#[.agg #[.int .i64 x.f0, .int .i64 x.f1, .int .i64 x.f2, .int .i64 x.f3, .int .i64 x.f4]] ++ lb) W1 fun e w' => e = .returned (.bool (p x)) ∧ Below W1.heap.size W1 w') (hb : b < W.heap.size) :
  Calls Try.prog 106 #[.agg #[.int .i64 x.f0, .int .i64 x.f1, .int .i64 x.f2, .int .i64 x.f3, .int .i64 x.f4], .pointer (some ⟨b, 0, none⟩)] W fun e w' => e = .returned (.bool (!p x)) ∧ Below W.heap.size W w' := by
 have hu_ := Try.underlying56; have HP := Aside0.mk hp; clear hp; have hB1 : Below W.heap.size W (W.alloc (.cells #[.int .i64 x.f0, .int .i64 x.f1, .int .i64 x.f2, .int .i64 x.f3, .int .i64 x.f4] 56)) := below_alloc (Below.refl _ _) _; have Aa : (W.alloc (.cells #[.int .i64 x.f0, .int .i64 x.f1, .int .i64 x.f2, .int .i64 x.f3, .int .i64 x.f4] 56)).cell? ⟨b, 0, none⟩ = some (.func (.func g) #[] lb) := (hB1.cell (p := ⟨b, 0, none⟩) hb).trans hc; have HB := Aside0.mk hB1; clear hB1 hc
 go_enter Try.func106, Try.ntmps106
 go_wp2_with fail
 refine (HP.out _ HB.out).mono ?_; rintro e w' ⟨rfl, hb'⟩
 go_wp2
 go_ret
 exact ⟨Z84, below_step HB.out hb'⟩
set_option maxHeartbeats 4000000 in
theorem areAll_lm (p : S56 → Bool) (g : Nat) (lb : Array Value) (A : Option Addr) (c : Nat) (xs : List S56) (w : World)
  (eg : ∀ args w, (callFunc g args).run Try.prog w = .ok (.enter g args) w) (hr : Kd.C k56 w A xs.length xs)
  (hp : ∀ (W : World) (x : S56), Below w.heap.size w W → Calls Try.prog g (#[.agg #[.int .i64 x.f0, .int .i64 x.f1, .int .i64 x.f2, .int .i64 x.f3, .int .i64 x.f4]] ++ lb) W fun e w' => e = .returned (.bool (p x)) ∧ Below W.heap.size W w') :
  Calls Try.prog 74 #[.slice A xs.length c, .func (.func g) #[] lb] w fun e w' => e = .returned (.bool (xs.all p)) ∧ Below w.heap.size w w' := by
 have hmf : ∀ (fn : Fn) (first cap : Array Value) (w : World), (Instr.makeFunc fn first cap).run Try.prog w = .ok (.func fn first cap) w := fun _ _ _ _ => rfl
 have hB1 : Below w.heap.size w (w.alloc (.cells #[.func (.func g) #[] lb] 65)) := below_alloc (Below.refl _ _) _
 have Aa : (w.alloc (.cells #[.func (.func g) #[] lb] 65)).cell? ⟨w.heap.size, 0, none⟩ = some (.func (.func g) #[] lb) := by simp
 have hsz : w.heap.size < (w.alloc (.cells #[.func (.func g) #[] lb] 65)).heap.size := by simp
 have HC := aM (ContainsFunc_lm (fun x => !p x) 106 #[.pointer (some ⟨w.heap.size, 0, none⟩)] A c xs (w.alloc (.cells #[.func (.func g) #[] lb] 65)) (enters_of Try.func106 Z31 rfl) (Kd.C_below hr hB1)
  (fun W x hW => areAll_lm_1 p g lb w.heap.size x W eg ((hW.cell (p := ⟨w.heap.size, 0, none⟩) hsz).trans Aa) (fun W1 h1 => hp W1 x ((hB1.trans (hW.mono hB1.size)).trans (h1.mono (Nat.le_trans hB1.size hW.size)))) (Nat.lt_of_lt_of_le hsz hW.size)))
 have HB := Aside0.mk hB1; rw [← any_not]; clear hB1 Aa hsz hp hr eg
 go_enter Try.func74, Try.ntmps74
 go_wp2_with fail
 refine HC.out.mono ?_; rintro e w' ⟨rfl, hb'⟩
 go_wp2
 go_ret
 exact ⟨Z84, below_step HB.out hb'⟩
set_option maxHeartbeats 8000000 in
theorem isAscending_lm (of : S56 → Int) (g : Nat) (lb : Array Value) (A : Option Addr) (c : Nat) (xs : List S56) (w : World)
  (eg : ∀ args w, (callFunc g args).run Try.prog w = .ok (.enter g args) w) (hr : Kd.C k56 w A xs.length xs)
  (hp : ∀ (W : World) (x : S56), Below w.heap.size w W → Calls Try.prog g (#[.agg #[.int .i64 x.f0, .int .i64 x.f1, .int .i64 x.f2, .int .i64 x.f3, .int .i64 x.f4]] ++ lb) W fun e w' => e = .returned (.int .i64 (of x)) ∧ Below W.heap.size W w') :
  Calls Try.prog 75 #[.slice A xs.length c, .func (.func g) #[] lb] w fun e w' => e = .returned (.bool (asc of xs)) ∧ Below w.heap.size w w' := by
 have hu_ := Try.underlying56; have hlen := Aside0.mk hr.2.1; have HR := Aside0.mk hr; have HP := Aside0.mk hp; clear hr hp
 go_enter Try.func75, Try.ntmps75
 go_wp2
 go_loopg [5] xs.length (fun gg s5 wr => ∃ x : Int, s5 = .int .i64 x ∧ Aside0 (1 ≤ x ∧ (x ≤ (xs.length : Int) ∨ x = 1) ∧ (xs.length : Int) + 1 - x ≤ gg) ∧ Aside0 (Below w.heap.size w wr) ∧ Aside0 (∀ j : Nat, (j : Int) + 1 < x → of (xs.getD j z56) < of (xs.getD (j + 1) z56)))
 case atStart => exact ⟨1, rfl, ⟨by omega, .inr rfl, by omega⟩, ⟨Below.refl _ _⟩, ⟨fun j hj => absurd hj (by omega)⟩⟩
 case round =>
  obtain ⟨x, rfl, HX, BW, HA⟩ := hrel
  by_cases hlt : x < (xs.length : Int)
  ·have c0 : decide (x < (xs.length : Int)) = true := decide_eq_true hlt
   have HL := Aside0.mk hlt; obtain ⟨y, hy⟩ : ∃ y : Int, y = x - 1 := ⟨_, rfl⟩
   have Ac : IntKind.i64.wrap (x - 1) = y := by rw [hy]; exact IntWalk.i64_in _ (by have := HX.out; have := hlen.out; omega)
   have Aa : 0 ≤ y := by have := HX.out; omega
   have Ab : y < (xs.length : Int) := by omega
   have HY := Aside0.mk hy
   have h0 : 0 ≤ x := by omega
   clear hy; obtain ⟨ad, e0, _⟩ := at_T56 (Kd.C_below HR.out BW.out) x h0 hlt; subst e0
   have KEY : Aside0 (∀ W', Below w.heap.size w W' → Below w.heap.size w W' ∧ W'.cell? (ad.add (y.toNat * 5)) = some (.int .i64 (rd_T56 xs y).f0) ∧ W'.cell? ⟨(ad.add (y.toNat * 5)).block, (ad.add (y.toNat * 5)).off + 1, none⟩ = some (.int .i64 (rd_T56 xs y).f1) ∧ W'.cell? ⟨(ad.add (y.toNat * 5)).block, (ad.add (y.toNat * 5)).off + 2, none⟩ = some (.int .i64 (rd_T56 xs y).f2) ∧ W'.cell? ⟨(ad.add (y.toNat * 5)).block, (ad.add (y.toNat * 5)).off + 3, none⟩ = some (.int .i64 (rd_T56 xs y).f3) ∧ W'.cell? ⟨(ad.add (y.toNat * 5)).block, (ad.add (y.toNat * 5)).off + 4, none⟩ = some (.int .i64 (rd_T56 xs y).f4) ∧ W'.cell? (ad.add (x.toNat * 5)) = some (.int .i64 (rd_T56 xs x).f0) ∧ W'.cell? ⟨(ad.add (x.toNat * 5)).block, (ad.add (x.toNat * 5)).off + 1, none⟩ = some (.int .i64 (rd_T56 xs x).f1) ∧ W'.cell? ⟨(ad.add (x.toNat * 5)).block, (ad.add (x.toNat * 5)).off + 2, none⟩ = some (.int .i64 (rd_T56 xs x).f2) ∧ W'.cell? ⟨(ad.add (x.toNat * 5)).block, (ad.add (x.toNat * 5)).off + 3, none⟩ = some (.int .i64 (rd_T56 xs x).f3) ∧ W'.cell? ⟨(ad.add (x.toNat * 5)).block, (ad.add (x.toNat * 5)).off + 4, none⟩ = some (.int .i64 (rd_T56 xs x).f4)) := ⟨fun W' h => by
    obtain ⟨a1, e1, h1⟩ := at_T56 (Kd.C_below HR.out h) y Aa Ab; obtain ⟨a2, e2, h2⟩ := at_T56 (Kd.C_below HR.out h) x h0 hlt; obtain rfl := Option.some.inj e1; obtain rfl := Option.some.inj e2; obtain ⟨b0, b1, b2, b3, b4⟩ := h1; obtain ⟨d0, d1, d2, d3, d4⟩ := h2
    exact ⟨h, b0, b1, b2, b3, b4, d0, d1, d2, d3, d4⟩⟩
   have HK := KEY.out _ BW.out; obtain ⟨_, b0, b1, b2, b3, b4, d0, d1, d2, d3, d4⟩ := HK
   have hw1 : wrap64 (x + 1) = x + 1 := by have := HX.out; have := HL.out; have := hlen.out; unfold wrap64; omega
   have hg0 : Aside0 (xs.getD x.toNat z56 = (rd_T56 xs x)) := ⟨rfl⟩; have hg1 : Aside0 (xs.getD y.toNat z56 = (rd_T56 xs y)) := ⟨rfl⟩
   by_cases hc : of (rd_T56 xs x) ≤ of (rd_T56 xs y)
   ·have c1 : decide (of (rd_T56 xs x) ≤ of (rd_T56 xs y)) = true := decide_eq_true hc
    have HC := Aside0.mk hc; clear hc
    go_wp2_with fail
    go_region_held3 (fun W' => Below w.heap.size w W' ∧ W'.cell? (ad.add (y.toNat * 5)) = some (.int .i64 (rd_T56 xs y).f0) ∧ W'.cell? ⟨(ad.add (y.toNat * 5)).block, (ad.add (y.toNat * 5)).off + 1, none⟩ = some (.int .i64 (rd_T56 xs y).f1) ∧ W'.cell? ⟨(ad.add (y.toNat * 5)).block, (ad.add (y.toNat * 5)).off + 2, none⟩ = some (.int .i64 (rd_T56 xs y).f2) ∧ W'.cell? ⟨(ad.add (y.toNat * 5)).block, (ad.add (y.toNat * 5)).off + 3, none⟩ = some (.int .i64 (rd_T56 xs y).f3) ∧ W'.cell? ⟨(ad.add (y.toNat * 5)).block, (ad.add (y.toNat * 5)).off + 4, none⟩ = some (.int .i64 (rd_T56 xs y).f4) ∧ W'.cell? (ad.add (x.toNat * 5)) = some (.int .i64 (rd_T56 xs x).f0) ∧ W'.cell? ⟨(ad.add (x.toNat * 5)).block, (ad.add (x.toNat * 5)).off + 1, none⟩ = some (.int .i64 (rd_T56 xs x).f1) ∧ W'.cell? ⟨(ad.add (x.toNat * 5)).block, (ad.add (x.toNat * 5)).off + 2, none⟩ = some (.int .i64 (rd_T56 xs x).f2) ∧ W'.cell? ⟨(ad.add (x.toNat * 5)).block, (ad.add (x.toNat * 5)).off + 3, none⟩ = some (.int .i64 (rd_T56 xs x).f3) ∧ W'.cell? ⟨(ad.add (x.toNat * 5)).block, (ad.add (x.toNat * 5)).off + 4, none⟩ = some (.int .i64 (rd_T56 xs x).f4))
     ((refine KEY.out _ ?_; first | ((repeat (first | exact BW.out | assumption | exact (‹Below w.heap.size w _ ∧ _›).1 | apply below_drew1 | apply pw_below_drewN)); done) | (refine below_step ?_ hb'; (repeat (first | exact BW.out | assumption | exact (‹Below w.heap.size w _ ∧ _›).1 | apply below_drew1 | apply pw_below_drewN)); done)))
     (first | (go_at_fn g; refine Calls.mono (HP.out _ _ ?_) ?_; (repeat (first | exact BW.out | assumption | exact (‹Below w.heap.size w _ ∧ _›).1 | apply below_drew1 | apply pw_below_drewN)); rintro e w' ⟨rfl, hb'⟩))
    have HB : Aside0 (Below w.heap.size w w') := ⟨(‹Below w.heap.size w w' ∧ _›).1⟩
    go_wp2
    go_ret
    refine ⟨?_, HB.out⟩; rw [asc_false of z56 xs y.toNat (by have := HX.out; have := HY.out; have := HL.out; omega) (by rw [show y.toNat + 1 = x.toNat by have := HX.out; have := HY.out; omega, hg0.out, hg1.out]; exact HC.out)]
    rfl
   ·have c1 : decide (of (rd_T56 xs x) ≤ of (rd_T56 xs y)) = false := decide_eq_false hc
    have HC := Aside0.mk hc; clear hc
    go_wp2_with fail
    go_region_held3 (fun W' => Below w.heap.size w W' ∧ W'.cell? (ad.add (y.toNat * 5)) = some (.int .i64 (rd_T56 xs y).f0) ∧ W'.cell? ⟨(ad.add (y.toNat * 5)).block, (ad.add (y.toNat * 5)).off + 1, none⟩ = some (.int .i64 (rd_T56 xs y).f1) ∧ W'.cell? ⟨(ad.add (y.toNat * 5)).block, (ad.add (y.toNat * 5)).off + 2, none⟩ = some (.int .i64 (rd_T56 xs y).f2) ∧ W'.cell? ⟨(ad.add (y.toNat * 5)).block, (ad.add (y.toNat * 5)).off + 3, none⟩ = some (.int .i64 (rd_T56 xs y).f3) ∧ W'.cell? ⟨(ad.add (y.toNat * 5)).block, (ad.add (y.toNat * 5)).off + 4, none⟩ = some (.int .i64 (rd_T56 xs y).f4) ∧ W'.cell? (ad.add (x.toNat * 5)) = some (.int .i64 (rd_T56 xs x).f0) ∧ W'.cell? ⟨(ad.add (x.toNat * 5)).block, (ad.add (x.toNat * 5)).off + 1, none⟩ = some (.int .i64 (rd_T56 xs x).f1) ∧ W'.cell? ⟨(ad.add (x.toNat * 5)).block, (ad.add (x.toNat * 5)).off + 2, none⟩ = some (.int .i64 (rd_T56 xs x).f2) ∧ W'.cell? ⟨(ad.add (x.toNat * 5)).block, (ad.add (x.toNat * 5)).off + 3, none⟩ = some (.int .i64 (rd_T56 xs x).f3) ∧ W'.cell? ⟨(ad.add (x.toNat * 5)).block, (ad.add (x.toNat * 5)).off + 4, none⟩ = some (.int .i64 (rd_T56 xs x).f4))
     ((refine KEY.out _ ?_; first | ((repeat (first | exact BW.out | assumption | exact (‹Below w.heap.size w _ ∧ _›).1 | apply below_drew1 | apply pw_below_drewN)); done) | (refine below_step ?_ hb'; (repeat (first | exact BW.out | assumption | exact (‹Below w.heap.size w _ ∧ _›).1 | apply below_drew1 | apply pw_below_drewN)); done)))
     (first | (go_at_fn g; refine Calls.mono (HP.out _ _ ?_) ?_; (repeat (first | exact BW.out | assumption | exact (‹Below w.heap.size w _ ∧ _›).1 | apply below_drew1 | apply pw_below_drewN)); rintro e w' ⟨rfl, hb'⟩))
    have HB : Aside0 (Below w.heap.size w w') := ⟨(‹Below w.heap.size w w' ∧ _›).1⟩
    go_wp2
    go_roundg (xs.length - x.toNat)
    case measure => have := HX.out; have := HL.out; omega
    case rel =>
     refine ⟨x + 1, Z101, ⟨Z100, Z102, Z98⟩, HB, ⟨fun j hj => ?_⟩⟩
     by_cases e : (j : Int) + 1 < x
     ·exact HA.out j e
     ·have hj' : j = y.toNat := by have := HX.out; have := HY.out; omega
      subst hj'; rw [show y.toNat + 1 = x.toNat by have := HX.out; have := HY.out; omega, hg0.out, hg1.out]; have := HC.out
      omega
  ·have c0 : decide (x < (xs.length : Int)) = false := decide_eq_false hlt
   have HL := Aside0.mk hlt; clear hlt
   go_wp2
   go_ret
   refine ⟨?_, BW.out⟩; rw [asc_true of z56 xs (fun j hj => HA.out j Z102)]
   rfl
def impl_AreLooms_1.f (a0_0 : Int) (a0_1 : Int) (a0_2 : Int) (a0_3 : Int) (a0_4 : Int) : Option (Int) := some a0_0
theorem impl_AreLooms_1.calls (Aa : Int) (Ac : Int) (Ad : Int) (Ae : Int) (Af : Int) (r : Int) (w : World) (h : impl_AreLooms_1.f Aa Ac Ad Ae Af = some r) :
  Calls Try.prog 76 #[.agg #[.int .i64 Aa, .int .i64 Ac, .int .i64 Ad, .int .i64 Ae, .int .i64 Af]] w fun e w' => e = .returned (.int .i64 r) ∧ Below w.heap.size w w' := by
 have hu56 := Try.underlying56; have HB := aM (Below.refl w.heap.size w); have H : (some Aa) = some r := h; clear h; obtain rfl := Option.some.inj H
 go_enter Try.func76, Try.ntmps76
 go_wp2_with (first | ((with_reducible refine gate_dst (N := 1) rfl ?_); refine bxE 1 #[.int .i64 Aa, .int .i64 Ac, .int .i64 Ad, .int .i64 Ae, .int .i64 Af] 56 ?_; intro Ar hg w2 hbox hb; have Ab := aM (hbox); have Au := gwS hg Z0; have Ag := gwS hg Z0; replace HB := hbS Z0 hb; clear hb hbox hg; obtain ⟨Ah, Ai, Aj, Ak, Al⟩ := bz5 Ab; obtain ⟨Am, An, Ao, Ap, Aq⟩ := fz5 Ab))
 go_ret
 exact ⟨Z7, Z10⟩
def impl_IsLoomT.f (a b c d e : Int) : Option Bool := impl_IsLoom.f 1 a b c d e
theorem impl_IsLoomT.calls (a b c d e : Int) (r : Bool) (w : World) (h : impl_IsLoomT.f a b c d e = some r) :
  Calls Try.prog 51 #[.agg #[.int .i64 a, .int .i64 b, .int .i64 c, .int .i64 d, .int .i64 e]] w fun e w' => e = .returned (.bool r) ∧ Below w.heap.size w w' := impl_IsLoom.calls 1 a b c d e r w h
theorem impl_IsLoomT.total (x : S56) : impl_IsLoomT.f x.f0 x.f1 x.f2 x.f3 x.f4 = some ((fun x : S56 => (impl_IsLoomT.f x.f0 x.f1 x.f2 x.f3 x.f4).getD false) x) := by
 unfold impl_IsLoomT.f impl_IsLoom.f impl_isId.f impl_isWide.f
 simp only [impl_in.eq, Option.bind_some, impl_IsLoom.j0]
 cases rng x.f0 1 99 <;> cases rng x.f1 30 600 <;> cases rng x.f2 0 4000 <;> cases rng x.f3 0 500 <;> simp only [if_true, if_false, Bool.false_eq_true, Option.bind_some, Bool.not_true, Bool.not_false, Option.getD_some] <;> (by_cases h0 : x.f4 = 0 <;> by_cases h1 : x.f4 = 1 <;> by_cases h2 : x.f4 = 2 <;> by_cases h3 : x.f2 = 0 <;> cases rng x.f2 10 (wrap64 (12 * x.f1)) <;> simp [h0, h1, h2, h3])
theorem impl_AreLooms_1.total (x : S56) : impl_AreLooms_1.f x.f0 x.f1 x.f2 x.f3 x.f4 = some ((fun x : S56 => (impl_AreLooms_1.f x.f0 x.f1 x.f2 x.f3 x.f4).getD 0) x) := by
 unfold impl_AreLooms_1.f
 rfl
def impl_AreLooms.f (l0 : List (S56)) : Option Bool := some (decide ((l0.length : Int) ≤ 8) && (l0.all (fun x : S56 => (impl_IsLoomT.f x.f0 x.f1 x.f2 x.f3 x.f4).getD false) && asc (fun x : S56 => (impl_AreLooms_1.f x.f0 x.f1 x.f2 x.f3 x.f4).getD 0) l0))
set_option maxHeartbeats 4000000 in
theorem impl_AreLooms.calls (A0 : Option Addr) (c0 : Nat) (l0 : List (S56)) (r : Bool) (w : World) (Aa : Kd.C k56 w A0 l0.length l0) (Ab : l0.length ≤ c0) (h : impl_AreLooms.f l0 = some r) :
  Calls Try.prog 30 #[.slice A0 l0.length c0] w fun e w' => e = .returned (.bool r) ∧ Below w.heap.size w w' := by
 have Ac := Option.some.inj h; subst Ac; clear h
 have h1 := areAll_lm (fun x : S56 => (impl_IsLoomT.f x.f0 x.f1 x.f2 x.f3 x.f4).getD false) 51 #[] A0 c0 l0 w (enters_of Try.func51 Z31 rfl) Aa
  (fun W x _ => (impl_IsLoomT.calls x.f0 x.f1 x.f2 x.f3 x.f4 _ W (impl_IsLoomT.total x)).mono fun e w' ⟨he, hd⟩ => ⟨he, by first | exact hd | exact hd.below⟩)
 have h2 : ∀ w1, Below w.heap.size w w1 → _ := fun w1 hb => isAscending_lm (fun x : S56 => (impl_AreLooms_1.f x.f0 x.f1 x.f2 x.f3 x.f4).getD 0) 76 #[] A0 c0 l0 w1 (enters_of Try.func76 Z31 rfl) (Kd.C_below Aa hb)
  (fun W x _ => (impl_AreLooms_1.calls x.f0 x.f1 x.f2 x.f3 x.f4 _ W (impl_AreLooms_1.total x)).mono fun e w' ⟨he, hd⟩ => ⟨he, by first | exact hd | exact hd.below⟩)
 have H2 := Aside0.mk h2; clear h2 Aa Ab
 by_cases hn : (l0.length : Int) ≤ 8
 ·have c0 : decide ((l0.length : Int) ≤ 8) = true := decide_eq_true hn
  have c1 : decide (l0.length ≤ 8) = true := decide_eq_true (by omega); rw [c0]; clear hn; cases hq : l0.all (fun x : S56 => (impl_IsLoomT.f x.f0 x.f1 x.f2 x.f3 x.f4).getD false) with
  | true =>
   rw [hq] at h1; have H1 := Aside0.mk h1; clear h1 hq
   go_enter Try.func30, Try.ntmps30
   go_wp2_with fail
   refine H1.out.mono ?_; rintro e w1 ⟨rfl, hb1⟩; have HB := Aside0.mk hb1; clear hb1
   go_wp2_with fail
   refine (H2.out _ HB.out).mono ?_; rintro e w2 ⟨rfl, hb2⟩
   go_wp2
   go_ret
   exact ⟨Z84, below_step HB.out hb2⟩
  | false =>
   rw [hq] at h1; have H1 := Aside0.mk h1; clear h1 hq
   go_enter Try.func30, Try.ntmps30
   go_wp2_with fail
   refine H1.out.mono ?_; rintro e w1 ⟨rfl, hb1⟩
   go_wp2
   go_ret
   exact ⟨Z84, hb1⟩
 ·have c0 : decide ((l0.length : Int) ≤ 8) = false := decide_eq_false hn
  have c1 : decide (l0.length ≤ 8) = false := decide_eq_false (by omega); rw [c0]; clear hn h1
  go_enter Try.func30, Try.ntmps30
  go_wp2
  go_ret
  exact ⟨Z84, Below.refl _ _⟩
set_option maxHeartbeats 4000000 in
set_option maxRecDepth 100000 in
theorem findLoom_1 (b : Nat) (x : S56) (a1 : Int) (W : World) (hc : W.cell? ⟨b, 0, none⟩ = some (.int .i64 a1)) (hb : b < W.heap.size) :
  Calls Try.prog 103 #[.agg #[.int .i64 x.f0, .int .i64 x.f1, .int .i64 x.f2, .int .i64 x.f3, .int .i64 x.f4], .pointer (some ⟨b, 0, none⟩)] W fun e w' => e = .returned (.bool (decide (x.f0 = a1))) ∧ Below W.heap.size W w' := by
 have hu_ := Try.underlying56; have hB1 : Below W.heap.size W (W.alloc (.cells #[.int .i64 x.f0, .int .i64 x.f1, .int .i64 x.f2, .int .i64 x.f3, .int .i64 x.f4] 56)) := below_alloc (Below.refl _ _) _; have Aa : (W.alloc (.cells #[.int .i64 x.f0, .int .i64 x.f1, .int .i64 x.f2, .int .i64 x.f3, .int .i64 x.f4] 56)).cell? ⟨b, 0, none⟩ = some (.int .i64 a1) := (hB1.cell (p := ⟨b, 0, none⟩) hb).trans hc; have HB := Aside0.mk hB1; clear hB1 hc
 by_cases h : x.f0 = a1
 ·have d0 : (x.f0 == a1) = true := beq_iff_eq.2 h
  rw [decide_eq_true h]; clear h
  go_enter Try.func103, Try.ntmps103
  go_wp2
  go_ret
  exact ⟨by first | rfl | (simp; done) | (simp [d0]; done), HB.out⟩
 ·have d0 : (x.f0 == a1) = false := beq_eq_false_iff_ne.2 h
  rw [decide_eq_false h]; clear h
  go_enter Try.func103, Try.ntmps103
  go_wp2
  go_ret
  exact ⟨by first | rfl | (simp; done) | (simp [d0]; done), HB.out⟩
def impl_findLoom.f (l0 : List (S56)) (a1 : Int) : Option Int := (impl_AreLooms.f l0).bind fun b => some (if b = true then findI (fun x => decide (x.f0 = a1)) l0 else -1)
theorem impl_findLoom.calls (A0 : Option Addr) (c0 : Nat) (l0 : List (S56)) (a1 : Int) (r : Int) (w : World) (Aa : Kd.C k56 w A0 l0.length l0) (Ab : l0.length ≤ c0) (h : impl_findLoom.f l0 a1 = some r) :
  Calls Try.prog 67 #[.slice A0 l0.length c0, .int .i64 a1] w fun e w' => e = .returned (.int .i64 r) ∧ Below w.heap.size w w' := by
 obtain ⟨b, hb, h1⟩ := Option.bind_eq_some_iff.mp h; obtain rfl := Option.some.inj h1; clear h h1
 have hmf : ∀ (fn : Fn) (first cap : Array Value) (w : World), (Instr.makeFunc fn first cap).run Try.prog w = .ok (.func fn first cap) w := fun _ _ _ _ => rfl
 have hB1 : Below w.heap.size w (w.alloc (.cells #[.int .i64 a1] 3)) := below_alloc (Below.refl _ _) _
 have hcell : (w.alloc (.cells #[.int .i64 a1] 3)).cell? ⟨w.heap.size, 0, none⟩ = some (.int .i64 a1) := by simp
 have hsz : w.heap.size < (w.alloc (.cells #[.int .i64 a1] 3)).heap.size := by simp
 have hA := impl_AreLooms.calls A0 c0 l0 b (w.alloc (.cells #[.int .i64 a1] 3)) (Kd.C_below Aa hB1) Ab hb
 have h3 : ∀ W, Below (w.heap.size + 1) (w.alloc (.cells #[.int .i64 a1] 3)) W → _ := fun W hb => IndexFunc_lm (fun x => decide (x.f0 = a1)) 103 #[.pointer (some ⟨w.heap.size, 0, none⟩)] A0 c0 l0 W (enters_of Try.func103 Z31 rfl) (Kd.C_below (Kd.C_below Aa hB1) (hb.mono (by simp)))
  (fun W2 x hb2 => findLoom_1 w.heap.size x a1 W2 ((hb2.cell (p := ⟨w.heap.size, 0, none⟩) (Nat.lt_of_lt_of_le hsz (by have := hb.size; simpa using this))).trans ((hb.cell (p := ⟨w.heap.size, 0, none⟩) (Nat.lt_succ_self _)).trans hcell)) (Nat.lt_of_lt_of_le (Nat.lt_of_lt_of_le hsz (by have := hb.size; simpa using this)) hb2.size))
 have HA := Aside0.mk hA; have H3 := Aside0.mk h3; have HB := Aside0.mk hB1; clear hA h3 hB1 hcell Aa Ab hb hsz; cases b with
 | false =>
  go_enter Try.func67, Try.ntmps67
  go_wp2_with fail
  refine HA.out.mono ?_; rintro e w1 ⟨rfl, hb1⟩
  go_wp2
  go_ret
  exact ⟨Z84, below_step HB.out hb1⟩
 | true =>
  go_enter Try.func67, Try.ntmps67
  go_wp2_with fail
  refine HA.out.mono ?_; rintro e w1 ⟨rfl, hb1⟩; have Ac := aM (below_step HB.out hb1); have HV := aM (show Below (w.heap.size + 1) (w.alloc (.cells #[.int .i64 a1] 3)) w1 from hb1.mono (by simp)); clear hb1
  go_wp2_with fail
  refine (H3.out _ HV.out).mono ?_; rintro e w2 ⟨rfl, hb2⟩
  go_wp2
  go_ret
  exact ⟨Z84, below_step Ac.out hb2⟩
def slices_Clone_lm.f (l0 : List (S56)) : Option (List (S56)) := if l0.length < 3518437208883 then some l0 else none
theorem slices_Clone_lm.calls (A0 : Option Addr) (c0 : Nat) (l0 : List (S56)) (r : List (S56)) (w : World) (Ab : Kd.C k56 w A0 l0.length l0) (Ae : l0.length ≤ c0) (h : slices_Clone_lm.f l0 = some r) :
  Calls Try.prog 104 #[.slice A0 l0.length c0] w fun e w' => ∃ v0_ : Value, e = .returned (v0_) ∧ Kd.R k56 56 w' w.heap.size (fun _ => True) v0_ r ∧ Below w.heap.size w w' := by
 unfold slices_Clone_lm.f at h
 by_cases hq : l0.length < 3518437208883
 case neg => rw [if_neg hq] at h; cases h
 rw [if_pos hq] at h; obtain rfl := Option.some.inj h; have HQ := Aside0.mk hq; clear h hq; cases A0 with
 | none =>
  have hn : l0 = [] := by
   cases l0 with
   | nil => rfl
   | cons x t => exact absurd (Ab.2.2 (by simp)) (by rintro ⟨ad, e, _⟩; cases e)
  subst hn
  have Ah : ∀ (w : World) (a : Option Addr) (n c n' c' : Nat), (binOp .eql 44 (.slice a n c) (.slice none n' c')).run Try.prog w = .ok (.bool a.isNone) w := fun w a n c n' c' => Lib.run_eql_slice_nil w _ _ a n c n' c' Try.underlying44
  clear Ab Ae
  go_enter Try.func104, Try.ntmps104
  go_wp2
  go_ret
  exact ⟨_, rfl, Kd.R_nil _ _ _ _ _, Below.refl _ _⟩
 | some ad =>
  have Ah : ∀ (w : World) (a : Option Addr) (n c n' c' : Nat), (binOp .eql 44 (.slice a n c) (.slice none n' c')).run Try.prog w = .ok (.bool a.isNone) w := fun w a n c n' c' => Lib.run_eql_slice_nil w _ _ a n c n' c' Try.underlying44
  have Ai := Aside0.mk Ab; clear Ab Ae; have HB := aM (Below.refl w.heap.size w); obtain ⟨y0, Ac⟩ : ∃ y_ : List (S56), y_ = [] := ⟨_, rfl⟩; have LMc := aM (show y0.length + l0.length < 3518437208883 by rw [Ac]; simpa using HQ.out); obtain ⟨y1, Ad⟩ : ∃ y_ : List (S56), y_ = (y0 ++ l0) := ⟨_, rfl⟩
  have e1 : y1 = l0 := by rw [Ad, Ac]; rfl
  have Af := Aside0.mk Ac; have Aj := Aside0.mk Ad; have E1 := Aside0.mk e1; clear Ac Ad e1
  go_enter Try.func104, Try.ntmps104
  go_wp2_with (first | ((with_reducible refine gate_dst (N := 5) rfl ?_); refine Kd.R_lit k56 _ 56 ?hg (N := 5) ?hd (xs := ([] : List (S56))) (inner := []) (ok := fun _ => True) (okp := fun _ => True) ?hr ?hp (fun _ hk => hk) trivial (Below.refl _ _) (Nat.le_refl _) (by simp) ?_; (case hd => rfl); (case hg => rfl); (case hr => first | (go_simp; done) | (go_simp; rfl)); (case hp => exact (Reps.none _ _)); intro v5 w3 Aa hb hg_ hnew_; clear hg_ hnew_; (first | rw [← Af.out] at Aa | (simp only [Int.reduceToNat] at Aa; rw [← Af.out] at Aa)); have Ag := aM (Kd.R_lower Aa (below_size Z0)); replace HB := hbS Z0 hb; clear hb Aa) | ((with_reducible refine gate_builtin (b := .append) (xs := #[.tmp 5, .tmp 6]) rfl ?_); at_builtin; refine Kd.R_append_rows k56 (w0 := w) w.heap.size rfl (.tmp 5) (.tmp 6) 44 56 (.agg #[(.int .i64 0), (.int .i64 0), (.int .i64 0), (.int .i64 0), (.int .i64 0)]) 40 rfl Try.underlying44 info56 rfl (by decide) (by omega) v5 y0 l0 _ _ _ (fun _ => True) (fun _ => False) rfl rfl ?aO ?aR (fun _ _ h => h) (fun _ h => h.elim) ?aF ?aB ?aS ?aL ?_; (case aR => repeat (first | exact (Kd.C_below Ai.out HB.out) | (with_reducible refine Kd.C_alloc ?_ _) | (with_reducible refine Kd.C_drewN ?_ _) | (with_reducible refine Kd.C_drew ?_))); (case aB => exact Z0); (case aF => exact (fun _ _ => trivial)); (case aO => exact Z45); (case aS => exact (below_size Z0)); (case aL => have := LMc.out; omega); intro v7 w5 ho hb hg hat; rw [← Aj.out] at ho; replace HB := aM (hb); have Ak := aM (ho); clear Ag; clear ho hb hg hat))
  go_ret
  exact ⟨_, Z84, by rw [← E1.out]; (with_reducible repeat (first | apply Kd.R_alloc | apply Kd.R_drewN | apply Kd.R_drew)); exact Ak.out, Z0⟩
def impl_withLoom.f (l0 : List (S56)) (a1 : Int) (a2_0 : Int) (a2_1 : Int) (a2_2 : Int) (a2_3 : Int) (a2_4 : Int) : Option ((List (S56)) × Bool) := (slices_Clone_lm.f l0).bind fun t114 => (if 0 ≤ a1 then (if a1 < (t114.length : Int) then ((some (t114.set (a1 : Int).toNat (⟨a2_0, a2_1, a2_2, a2_3, a2_4⟩ : S56) : List (S56))).bind fun y117 => ((impl_AreLooms.f y117).bind fun t118 => (if t118 = true then (some (y117, true)) else (some (([] : List (S56)), false))))) else (none)) else (none))
theorem impl_withLoom.calls (A0 : Option Addr) (c0 : Nat) (l0 : List (S56)) (a1 : Int) (Ae : Int) (Af : Int) (Ag : Int) (Ah : Int) (Ai : Int) (r1 : List (S56)) (r2 : Bool) (w : World) (Cv : Kd.C k56 w A0 l0.length l0) (Cw : l0.length ≤ c0) (h : impl_withLoom.f l0 a1 Ae Af Ag Ah Ai = some (r1, r2)) :
  Calls Try.prog 70 #[.slice A0 l0.length c0, .int .i64 a1, .agg #[.int .i64 Ae, .int .i64 Af, .int .i64 Ag, .int .i64 Ah, .int .i64 Ai]] w fun e w' => ∃ v0_ : Value, e = .returned (.tuple #[v0_, .bool r2]) ∧ Kd.R k56 56 w' w.heap.size (fun _ => True) v0_ r1 ∧ Below w.heap.size w w' := by
 have hu56 := Try.underlying56; have Cx := Aside0.mk Cv; have Cy := Aside0.mk Cw; clear Cv Cw; have HB := aM (Below.refl w.heap.size w); have H : ((slices_Clone_lm.f l0).bind fun Ab => (if 0 ≤ a1 then (if a1 < (Ab.length : Int) then ((some (Ab.set (a1 : Int).toNat (⟨Ae, Af, Ag, Ah, Ai⟩ : S56) : List (S56))).bind fun Ad => ((impl_AreLooms.f Ad).bind fun Am => (if Am = true then (some (Ad, true)) else (some (([] : List (S56)), false))))) else (none)) else (none))) = some (r1, r2) := h; clear h; replace H := Option.bind_eq_some_iff.mp H; obtain ⟨Ab, Cz, H⟩ := H; replace H : (if 0 ≤ a1 then (if a1 < (Ab.length : Int) then ((some (Ab.set (a1 : Int).toNat (⟨Ae, Af, Ag, Ah, Ai⟩ : S56) : List (S56))).bind fun Ad => ((impl_AreLooms.f Ad).bind fun Am => (if Am = true then (some (Ad, true)) else (some (([] : List (S56)), false))))) else (none)) else (none)) = some (r1, r2) := H; have A4 := Aside0.mk Cz; clear Cz
 by_cases c5 : 0 ≤ a1
 ·rw [if_pos c5] at H
  have c5b0 : decide (0 ≤ a1) = true := decide_eq_true c5; clear c5
  by_cases c6 : a1 < (Ab.length : Int)
  ·rw [if_pos c6] at H
   have c6b0 : decide (a1 < (Ab.length : Int)) = true := decide_eq_true c6; clear c6; obtain ⟨Ad, An⟩ : ∃ y_ : List (S56), y_ = (Ab.set (a1 : Int).toNat (⟨Ae, Af, Ag, Ah, Ai⟩ : S56)) := ⟨_, rfl⟩
   replace H : ((impl_AreLooms.f Ad).bind fun Am => (if Am = true then (some (Ad, true)) else (some (([] : List (S56)), false)))) = some (r1, r2) := by first | (rw [An]; with_reducible exact H) | (have H2_ := (Option.bind_some _ _).symm.trans H; rw [An]; with_reducible exact H2_) | (have H2_ := (Option.bind_some _ _).symm.trans H; with_reducible exact H2_) | with_reducible exact H | (rw [An]; exact H) | exact H
   have Ar := Aside0.mk An; clear An; replace H := Option.bind_eq_some_iff.mp H; obtain ⟨Am, C0, H⟩ := H; replace H : (if Am = true then (some (Ad, true)) else (some (([] : List (S56)), false))) = some (r1, r2) := H; have A8 := Aside0.mk C0; clear C0
   by_cases c9 : Am = true
   ·subst c9
    have H1 : (some (Ad, true)) = some (r1, r2) := by rw [if_pos rfl] at H; exact H
    clear H; have H := H1; clear H1
    simp only [Option.some.injEq, Prod.mk.injEq] at H
    obtain ⟨rfl, rfl⟩ := H
    go_enter Try.func70, Try.ntmps70
    go_wp2_with (first | ((with_reducible refine gate_dst (N := 5) rfl ?_); refine bxE 5 #[.int .i64 Ae, .int .i64 Af, .int .i64 Ag, .int .i64 Ah, .int .i64 Ai] 56 ?_; intro Ak hg C2 hbox hb; have Ac := aM (hbox); have Bs := gwS hg Z0; have Al := gwS hg Z0; replace HB := hbS Z0 hb; clear hb hbox hg) | ((with_reducible refine gate_callee (f := 104) rfl ?_); refine glE (some 10) Try.func104 #[.slice A0 l0.length c0] ?_; (with_reducible refine (slices_Clone_lm.calls _ _ l0 Ab _ ?side1 ?side2 A4.out).mono ?_); (case side1 => exact Z70); (case side2 => exact Cy.out); rintro e Ao ⟨Cs, rfl, Bt, hb⟩; refine ⟨_, rfl, ?_⟩; have Aa := aM (Kd.R_lower (Kd.R_newB Bt (g := Ak) (o := .cells #[.int .i64 Ae, .int .i64 Af, .int .i64 Ag, .int .i64 Ah, .int .i64 Ai] 56 (0, 0)) Z50) (below_size Z20)); replace Ac := bkB Ac hb; replace HB := hbS Z20 hb; (try clear hb); (try clear Bt); obtain ⟨B8, B9, Ca, Cb, Cc⟩ := bz5 Ac; obtain ⟨Cd, Ce, Cf, Cg, Ch⟩ := fz5 Ac; have p7 : 0 ≤ (a1 : Int) := of_decide_eq_true Z3; have q7 : (a1 : Int) < ((Ab.length : Int) : Int) := of_decide_eq_true Z3; obtain ⟨Aj, Au, Bu, Bv, gl7, cl7, HG7⟩ := Kd.R_form Aa.out (by omega); (first | cases Bu | (injection Bu with ea_ en_ ec_; (first | subst ea_ | (injection ea_ with ea_; subst ea_)); subst ec_; clear en_)); have Aq := Aside0.mk Bv; have C1 := Aside0.mk HG7; clear Bv gl7 HG7; obtain ⟨ce7, hcl7, hM7, hcc7, hfr7⟩ := Kd.R_elem Aa.out z56 (a1 : Int) p7 q7; obtain rfl := k56_openM hM7; have Bw : Ao.cell? ⟨Aj, (a1 : Int).toNat * 5, none⟩ = some (.int .i64 ((rd_T56 Ab a1).f0)) := hcc7 0 _ rfl; have Bx : Ao.cell? ⟨Aj, (a1 : Int).toNat * 5 + 1, none⟩ = some (.int .i64 ((rd_T56 Ab a1).f1)) := hcc7 1 _ rfl; have Bz : Ao.cell? ⟨Aj, (a1 : Int).toNat * 5 + 2, none⟩ = some (.int .i64 ((rd_T56 Ab a1).f2)) := hcc7 2 _ rfl; have B0 : Ao.cell? ⟨Aj, (a1 : Int).toNat * 5 + 3, none⟩ = some (.int .i64 ((rd_T56 Ab a1).f3)) := hcc7 3 _ rfl; have B1 : Ao.cell? ⟨Aj, (a1 : Int).toNat * 5 + 4, none⟩ = some (.int .i64 ((rd_T56 Ab a1).f4)) := hcc7 4 _ rfl; have B2 : Ao.frozen? ⟨Aj, (a1 : Int).toNat * 5, none⟩ = false := hfr7 0; have B3 : Ao.frozen? ⟨Aj, (a1 : Int).toNat * 5 + 1, none⟩ = false := hfr7 1; have B5 : Ao.frozen? ⟨Aj, (a1 : Int).toNat * 5 + 2, none⟩ = false := hfr7 2; have B6 : Ao.frozen? ⟨Aj, (a1 : Int).toNat * 5 + 3, none⟩ = false := hfr7 3; have B7 : Ao.frozen? ⟨Aj, (a1 : Int).toNat * 5 + 4, none⟩ = false := hfr7 4; clear hcl7 hcc7 hfr7 hM7; replace p7 := eq_true p7; replace q7 := eq_true q7; have n_ := aM (Kd.R_mono (ok' := (fun k_ => k_ ≠ Ak)) Aa.out (fun k_ hk => hk.2)); clear Aa; have Aa := n_; clear n_; have HX13 := aM (show Kd.R k56 56 Ao w.heap.size (fun k_ => k_ ≠ Ak) (.slice (some ⟨Aj, 0, none⟩) Ab.length Au) Ab from Z54); obtain ⟨ce13, hcl13, hM13, hcc13, hfr13⟩ := Kd.R_elem HX13.out z56 (a1 : Int) (of_decide_eq_true Z3) Z109; obtain rfl := k56_openM hM13; have Av := Kd.R_seg HX13.out (a1 : Int) (of_decide_eq_true Z3) Z109 (seg := [.int .i64 Ae, .int .i64 Af, .int .i64 Ag, .int .i64 Ah, .int .i64 Ai]) (j := 0) hcl13 hcc13 (show 5 ≤ 5 from by decide) (x' := (⟨Ae, Af, Ag, Ah, Ai⟩ : S56)) (k56_mkM _ _ _ (⟨Ae, Af, Ag, Ah, Ai⟩ : S56) ) (fun _ hk => hk); have Aw := hcc13 0 _ rfl; (try simp only [show (k56).sz = 5 from rfl, Nat.mul_one, Nat.add_zero] at Aw); have Ax := hfr13 0; (try simp only [show (k56).sz = 5 from rfl, Nat.mul_one, Nat.add_zero] at Ax); have Ay := hcc13 1 _ rfl; (try simp only [show (k56).sz = 5 from rfl, Nat.mul_one, Nat.add_zero] at Ay); have Az := hfr13 1; (try simp only [show (k56).sz = 5 from rfl, Nat.mul_one, Nat.add_zero] at Az); have Ba := hcc13 2 _ rfl; (try simp only [show (k56).sz = 5 from rfl, Nat.mul_one, Nat.add_zero] at Ba); have Bb := hfr13 2; (try simp only [show (k56).sz = 5 from rfl, Nat.mul_one, Nat.add_zero] at Bb); have Bc := hcc13 3 _ rfl; (try simp only [show (k56).sz = 5 from rfl, Nat.mul_one, Nat.add_zero] at Bc); have Bd := hfr13 3; (try simp only [show (k56).sz = 5 from rfl, Nat.mul_one, Nat.add_zero] at Bd); have Bf := hcc13 4 _ rfl; (try simp only [show (k56).sz = 5 from rfl, Nat.mul_one, Nat.add_zero] at Bf); have Bg := hfr13 4; (try simp only [show (k56).sz = 5 from rfl, Nat.mul_one, Nat.add_zero] at Bg); clear hcl13 hcc13 hfr13 hM13) | ((with_reducible refine gate_store (t := 56) (p := 14) rfl ?_); refine store_event (t := 56) (p := 14) (v := ?vo_w14) (w1 := (((((Ao.setCell ⟨Aj, (a1 : Int).toNat * 5, none⟩ (.int .i64 Ae)).setCell ⟨Aj, (a1 : Int).toNat * 5 + 1, none⟩ (.int .i64 Af)).setCell ⟨Aj, (a1 : Int).toNat * 5 + 2, none⟩ (.int .i64 Ag)).setCell ⟨Aj, (a1 : Int).toNat * 5 + 3, none⟩ (.int .i64 Ah)).setCell ⟨Aj, (a1 : Int).toNat * 5 + 4, none⟩ (.int .i64 Ai))) ?hg ?ho ?hn ?hr ?_; (case ho => rfl); (case hg => rfl); (case hn => rfl); (case hr => first | (go_simp; done) | (go_simp; rfl)); intro Ct hw; have hg : Ao.grownBy Ct (some Aj) := (by rw [hw]; exact Av.2); have hp_ : Kd.R k56 56 Ct w.heap.size (fun k_ => k_ ≠ Ak) (.slice (some ⟨Aj, 0, none⟩) Ab.length Au) Ad := (by rw [hw, Ar.out]; exact Av.1); clear Av; replace Ac := aM (blk_grown (g := Ak) (o := .cells #[.int .i64 Ae, .int .i64 Af, .int .i64 Ag, .int .i64 Ah, .int .i64 Ai] 56 (0, 0)) Z50 hg (Kd.R_away Aa.out (fun _ hk => hk))); replace Aa := aM (hp_); replace HB := aM ((Z85 : Below w.heap.size w Ct)); clear hg hw hp_) | ((with_reducible refine gate_callee (f := 30) rfl ?_); refine goesL_ (some 16) rfl rfl Try.func30 Z31 rfl #[.slice (some ⟨Aj, 0, none⟩) Ad.length Au] rfl Z64 ?_; (with_reducible refine (impl_AreLooms.calls _ _ Ad true _ ?side1 ?side2 A8.out).mono ?_); (case side1 => exact Z37); (case side2 => exact Z96); rintro e C3 ⟨rfl, hb⟩; refine ⟨_, rfl, ?_⟩; replace Aa := roB Aa hb; replace Ac := bkB Ac hb; replace HB := hbS Z20 hb; (try clear hb)))
    go_ret2
    exact ⟨_, Z7, Z80, Z20⟩
   ·replace c9 := Bool.eq_false_iff.mpr c9
    subst c9
    have H1 : (some (([] : List (S56)), false)) = some (r1, r2) := by rw [if_neg (show ¬ (false = true) by decide)] at H; exact H
    clear H; have H := H1; clear H1
    simp only [Option.some.injEq, Prod.mk.injEq] at H
    obtain ⟨rfl, rfl⟩ := H
    go_enter Try.func70, Try.ntmps70
    go_wp2_with (first | ((with_reducible refine gate_dst (N := 5) rfl ?_); refine bxE 5 #[.int .i64 Ae, .int .i64 Af, .int .i64 Ag, .int .i64 Ah, .int .i64 Ai] 56 ?_; intro Ak hg C4 hbox hb; have Ac := aM (hbox); have Bs := gwS hg Z0; have Al := gwS hg Z0; replace HB := hbS Z0 hb; clear hb hbox hg) | ((with_reducible refine gate_callee (f := 104) rfl ?_); refine glE (some 10) Try.func104 #[.slice A0 l0.length c0] ?_; (with_reducible refine (slices_Clone_lm.calls _ _ l0 Ab _ ?side1 ?side2 A4.out).mono ?_); (case side1 => exact Z70); (case side2 => exact Cy.out); rintro e Ap ⟨Cs, rfl, Bt, hb⟩; refine ⟨_, rfl, ?_⟩; have Aa := aM (Kd.R_lower (Kd.R_newB Bt (g := Ak) (o := .cells #[.int .i64 Ae, .int .i64 Af, .int .i64 Ag, .int .i64 Ah, .int .i64 Ai] 56 (0, 0)) Z50) (below_size Z20)); replace Ac := bkB Ac hb; replace HB := hbS Z20 hb; (try clear hb); (try clear Bt); obtain ⟨Ci, Cj, Ck, Cl, Cm⟩ := bz5 Ac; obtain ⟨Cn, Co, Cp, Cq, Cr⟩ := fz5 Ac; have p7 : 0 ≤ (a1 : Int) := of_decide_eq_true Z3; have q7 : (a1 : Int) < ((Ab.length : Int) : Int) := of_decide_eq_true Z3; obtain ⟨Aj, Au, Bu, Bv, gl7, cl7, HG7⟩ := Kd.R_form Aa.out (by omega); (first | cases Bu | (injection Bu with ea_ en_ ec_; (first | subst ea_ | (injection ea_ with ea_; subst ea_)); subst ec_; clear en_)); have Aq := Aside0.mk Bv; have C1 := Aside0.mk HG7; clear Bv gl7 HG7; obtain ⟨ce7, hcl7, hM7, hcc7, hfr7⟩ := Kd.R_elem Aa.out z56 (a1 : Int) p7 q7; obtain rfl := k56_openM hM7; have Bw : Ap.cell? ⟨Aj, (a1 : Int).toNat * 5, none⟩ = some (.int .i64 ((rd_T56 Ab a1).f0)) := hcc7 0 _ rfl; have Bx : Ap.cell? ⟨Aj, (a1 : Int).toNat * 5 + 1, none⟩ = some (.int .i64 ((rd_T56 Ab a1).f1)) := hcc7 1 _ rfl; have Bz : Ap.cell? ⟨Aj, (a1 : Int).toNat * 5 + 2, none⟩ = some (.int .i64 ((rd_T56 Ab a1).f2)) := hcc7 2 _ rfl; have B0 : Ap.cell? ⟨Aj, (a1 : Int).toNat * 5 + 3, none⟩ = some (.int .i64 ((rd_T56 Ab a1).f3)) := hcc7 3 _ rfl; have B1 : Ap.cell? ⟨Aj, (a1 : Int).toNat * 5 + 4, none⟩ = some (.int .i64 ((rd_T56 Ab a1).f4)) := hcc7 4 _ rfl; have B2 : Ap.frozen? ⟨Aj, (a1 : Int).toNat * 5, none⟩ = false := hfr7 0; have B3 : Ap.frozen? ⟨Aj, (a1 : Int).toNat * 5 + 1, none⟩ = false := hfr7 1; have B5 : Ap.frozen? ⟨Aj, (a1 : Int).toNat * 5 + 2, none⟩ = false := hfr7 2; have B6 : Ap.frozen? ⟨Aj, (a1 : Int).toNat * 5 + 3, none⟩ = false := hfr7 3; have B7 : Ap.frozen? ⟨Aj, (a1 : Int).toNat * 5 + 4, none⟩ = false := hfr7 4; clear hcl7 hcc7 hfr7 hM7; replace p7 := eq_true p7; replace q7 := eq_true q7; have n_ := aM (Kd.R_mono (ok' := (fun k_ => k_ ≠ Ak)) Aa.out (fun k_ hk => hk.2)); clear Aa; have Aa := n_; clear n_; have HX19 := aM (show Kd.R k56 56 Ap w.heap.size (fun k_ => k_ ≠ Ak) (.slice (some ⟨Aj, 0, none⟩) Ab.length Au) Ab from Z54); obtain ⟨ce19, hcl19, hM19, hcc19, hfr19⟩ := Kd.R_elem HX19.out z56 (a1 : Int) (of_decide_eq_true Z3) Z109; obtain rfl := k56_openM hM19; have Bh := Kd.R_seg HX19.out (a1 : Int) (of_decide_eq_true Z3) Z109 (seg := [.int .i64 Ae, .int .i64 Af, .int .i64 Ag, .int .i64 Ah, .int .i64 Ai]) (j := 0) hcl19 hcc19 (show 5 ≤ 5 from by decide) (x' := (⟨Ae, Af, Ag, Ah, Ai⟩ : S56)) (k56_mkM _ _ _ (⟨Ae, Af, Ag, Ah, Ai⟩ : S56) ) (fun _ hk => hk); have Bi := hcc19 0 _ rfl; (try simp only [show (k56).sz = 5 from rfl, Nat.mul_one, Nat.add_zero] at Bi); have Bj := hfr19 0; (try simp only [show (k56).sz = 5 from rfl, Nat.mul_one, Nat.add_zero] at Bj); have Bk := hcc19 1 _ rfl; (try simp only [show (k56).sz = 5 from rfl, Nat.mul_one, Nat.add_zero] at Bk); have Bl := hfr19 1; (try simp only [show (k56).sz = 5 from rfl, Nat.mul_one, Nat.add_zero] at Bl); have Bm := hcc19 2 _ rfl; (try simp only [show (k56).sz = 5 from rfl, Nat.mul_one, Nat.add_zero] at Bm); have Bn := hfr19 2; (try simp only [show (k56).sz = 5 from rfl, Nat.mul_one, Nat.add_zero] at Bn); have Bo := hcc19 3 _ rfl; (try simp only [show (k56).sz = 5 from rfl, Nat.mul_one, Nat.add_zero] at Bo); have Bp := hfr19 3; (try simp only [show (k56).sz = 5 from rfl, Nat.mul_one, Nat.add_zero] at Bp); have Bq := hcc19 4 _ rfl; (try simp only [show (k56).sz = 5 from rfl, Nat.mul_one, Nat.add_zero] at Bq); have Br := hfr19 4; (try simp only [show (k56).sz = 5 from rfl, Nat.mul_one, Nat.add_zero] at Br); clear hcl19 hcc19 hfr19 hM19) | ((with_reducible refine gate_store (t := 56) (p := 14) rfl ?_); refine store_event (t := 56) (p := 14) (v := ?vo_w20) (w1 := (((((Ap.setCell ⟨Aj, (a1 : Int).toNat * 5, none⟩ (.int .i64 Ae)).setCell ⟨Aj, (a1 : Int).toNat * 5 + 1, none⟩ (.int .i64 Af)).setCell ⟨Aj, (a1 : Int).toNat * 5 + 2, none⟩ (.int .i64 Ag)).setCell ⟨Aj, (a1 : Int).toNat * 5 + 3, none⟩ (.int .i64 Ah)).setCell ⟨Aj, (a1 : Int).toNat * 5 + 4, none⟩ (.int .i64 Ai))) ?hg ?ho ?hn ?hr ?_; (case ho => rfl); (case hg => rfl); (case hn => rfl); (case hr => first | (go_simp; done) | (go_simp; rfl)); intro Cu hw; have hg : Ap.grownBy Cu (some Aj) := (by rw [hw]; exact Bh.2); have hp_ : Kd.R k56 56 Cu w.heap.size (fun k_ => k_ ≠ Ak) (.slice (some ⟨Aj, 0, none⟩) Ab.length Au) Ad := (by rw [hw, Ar.out]; exact Bh.1); clear Bh; replace Ac := aM (blk_grown (g := Ak) (o := .cells #[.int .i64 Ae, .int .i64 Af, .int .i64 Ag, .int .i64 Ah, .int .i64 Ai] 56 (0, 0)) Z50 hg (Kd.R_away Aa.out (fun _ hk => hk))); replace Aa := aM (hp_); replace HB := aM ((Z85 : Below w.heap.size w Cu)); clear hg hw hp_) | ((with_reducible refine gate_callee (f := 30) rfl ?_); refine goesL_ (some 16) rfl rfl Try.func30 Z31 rfl #[.slice (some ⟨Aj, 0, none⟩) Ad.length Au] rfl Z64 ?_; (with_reducible refine (impl_AreLooms.calls _ _ Ad false _ ?side1 ?side2 A8.out).mono ?_); (case side1 => exact Z37); (case side2 => exact Z96); rintro e C5 ⟨rfl, hb⟩; refine ⟨_, rfl, ?_⟩; replace Aa := roB Aa hb; replace Ac := bkB Ac hb; replace HB := hbS Z20 hb; (try clear hb)))
    go_ret2
    exact ⟨_, Z7, Z43, Z20⟩
  ·rw [if_neg c6] at H
   exact absurd H (by simp)
 ·rw [if_neg c5] at H
  exact absurd H (by simp)
def impl_WarpLoom.f (l0 : List (S56)) (a1 : Int) (a2 : Int) (a3 : Int) : Option ((List (S56)) × Bool) := (impl_findLoom.f l0 a1).bind fun t119 => (if t119 < 0 then (some (([] : List (S56)), false)) else (if 0 ≤ t119 then (if t119 < (l0.length : Int) then (if ((rd_T56 l0 t119).f4) = 0 then ((impl_withLoom.f l0 t119 ((rd_T56 l0 t119).f0) ((rd_T56 l0 t119).f1) a2 a3 1).bind fun bt123 => (some (bt123.1, bt123.2))) else (some (([] : List (S56)), false))) else (none)) else (none)))
theorem impl_WarpLoom.calls (A0 : Option Addr) (c0 : Nat) (l0 : List (S56)) (a1 : Int) (a2 : Int) (a3 : Int) (r1 : List (S56)) (r2 : Bool) (w : World) (Az : Kd.C k56 w A0 l0.length l0) (Ba : l0.length ≤ c0) (h : impl_WarpLoom.f l0 a1 a2 a3 = some (r1, r2)) :
  Calls Try.prog 34 #[.slice A0 l0.length c0, .int .i64 a1, .int .i64 a2, .int .i64 a3] w fun e w' => ∃ v0_ : Value, e = .returned (.tuple #[v0_, .bool r2]) ∧ Kd.R k56 56 w' w.heap.size (fun _ => True) v0_ r1 ∧ Below w.heap.size w w' := by
 have hu56 := Try.underlying56; have Ao := Aside0.mk Az; have Ay := Aside0.mk Ba; clear Az Ba; have HB := aM (Below.refl w.heap.size w); have H : ((impl_findLoom.f l0 a1).bind fun Aa => (if Aa < 0 then (some (([] : List (S56)), false)) else (if 0 ≤ Aa then (if Aa < (l0.length : Int) then (if ((rd_T56 l0 Aa).f4) = 0 then ((impl_withLoom.f l0 Aa ((rd_T56 l0 Aa).f0) ((rd_T56 l0 Aa).f1) a2 a3 1).bind fun Al => (some (Al.1, Al.2))) else (some (([] : List (S56)), false))) else (none)) else (none)))) = some (r1, r2) := h; clear h; replace H := Option.bind_eq_some_iff.mp H; obtain ⟨Aa, Bb, H⟩ := H; replace H : (if Aa < 0 then (some (([] : List (S56)), false)) else (if 0 ≤ Aa then (if Aa < (l0.length : Int) then (if ((rd_T56 l0 Aa).f4) = 0 then ((impl_withLoom.f l0 Aa ((rd_T56 l0 Aa).f0) ((rd_T56 l0 Aa).f1) a2 a3 1).bind fun Al => (some (Al.1, Al.2))) else (some (([] : List (S56)), false))) else (none)) else (none))) = some (r1, r2) := H; have A5 := Aside0.mk Bb; clear Bb
 by_cases c6 : Aa < 0
 ·rw [if_pos c6] at H
  have c6b0 : decide (Aa < 0) = true := decide_eq_true c6; clear c6
  simp only [Option.some.injEq, Prod.mk.injEq] at H
  obtain ⟨rfl, rfl⟩ := H
  go_enter Try.func34, Try.ntmps34
  go_wp2_with (first | ((with_reducible refine gate_callee (f := 67) rfl ?_); refine glE (some 14) Try.func67 #[.slice A0 l0.length c0, .int .i64 a1] ?_; (with_reducible refine (impl_findLoom.calls _ _ l0 a1 Aa _ ?side1 ?side2 A5.out).mono ?_); (case side1 => exact Z59); (case side2 => exact Ay.out); rintro e w7 ⟨rfl, hb⟩; refine ⟨_, rfl, ?_⟩; replace HB := hbS Z0 hb; (try clear hb)))
  go_ret2
  exact ⟨_, Z7, Z43, Z0⟩
 ·rw [if_neg c6] at H
  have c6b0 : decide (Aa < 0) = false := decide_eq_false c6; clear c6
  by_cases c8 : 0 ≤ Aa
  ·rw [if_pos c8] at H
   have c8b0 : decide (0 ≤ Aa) = true := decide_eq_true c8; clear c8
   by_cases c9 : Aa < (l0.length : Int)
   ·rw [if_pos c9] at H
    have c9b0 : decide (Aa < (l0.length : Int)) = true := decide_eq_true c9; clear c9
    by_cases Ap : ((rd_T56 l0 Aa).f4) = 0
    ·rw [if_pos Ap] at H
     have c10b0 : (((rd_T56 l0 Aa).f4) == 0) = true := beq_iff_eq.mpr Ap; have c10b1 : (((rd_T56 l0 Aa).f4) != 0) = false := bne_eq_false_iff_eq.mpr Ap; clear Ap; replace H := Option.bind_eq_some_iff.mp H; obtain ⟨⟨Au, Av⟩, Aw, H⟩ := H; replace H : (some (Au, Av)) = some (r1, r2) := H; have Bd := Aside0.mk Aw; clear Aw
     simp only [Option.some.injEq, Prod.mk.injEq] at H
     obtain ⟨rfl, rfl⟩ := H
     go_enter Try.func34, Try.ntmps34
     go_wp2_with (first | ((with_reducible refine gate_callee (f := 67) rfl ?_); refine glE (some 14) Try.func67 #[.slice A0 l0.length c0, .int .i64 a1] ?_; (with_reducible refine (impl_findLoom.calls _ _ l0 a1 Aa _ ?side1 ?side2 A5.out).mono ?_); (case side1 => exact Z59); (case side2 => exact Ay.out); rintro e Bg ⟨rfl, hb⟩; refine ⟨_, rfl, ?_⟩; replace HB := hbS Z0 hb; (try clear hb); have Am : 0 ≤ (Aa : Int) := of_decide_eq_true Z3; have An : Aa < (l0.length : Int) := of_decide_eq_true Z3; obtain ⟨ad120, e120, Ab, Ac, Ad, Ae, Af⟩ := at_T56 Ao.out Aa Am An; cases e120; replace Ab := (HB.out.cell (World.block_lt_of_cell? w _ Ab)).trans Ab; replace Ac := (HB.out.cell (World.block_lt_of_cell? w _ Ac)).trans Ac; replace Ad := (HB.out.cell (World.block_lt_of_cell? w _ Ad)).trans Ad; replace Ae := (HB.out.cell (World.block_lt_of_cell? w _ Ae)).trans Ae; replace Af := (HB.out.cell (World.block_lt_of_cell? w _ Af)).trans Af; replace Am := eq_true Am; replace An := eq_true An; have Aq : 0 ≤ (Aa : Int) := of_decide_eq_true Z3; have Ar : Aa < (l0.length : Int) := of_decide_eq_true Z3; obtain ⟨ad121, e121, Ag, Ah, Ai, Aj, Ak⟩ := at_T56 Ao.out Aa Aq Ar; obtain rfl : ad120 = ad121 := (by injection e121); replace Ag := (HB.out.cell (World.block_lt_of_cell? w _ Ag)).trans Ag; replace Ah := (HB.out.cell (World.block_lt_of_cell? w _ Ah)).trans Ah; replace Ai := (HB.out.cell (World.block_lt_of_cell? w _ Ai)).trans Ai; replace Aj := (HB.out.cell (World.block_lt_of_cell? w _ Aj)).trans Aj; replace Ak := (HB.out.cell (World.block_lt_of_cell? w _ Ak)).trans Ak; replace Aq := eq_true Aq; replace Ar := eq_true Ar) | ((with_reducible refine gate_callee (f := 70) rfl ?_); refine glE (some 37) Try.func70 #[.slice (some ad120) l0.length c0, .int .i64 Aa, .agg #[.int .i64 ((rd_T56 l0 Aa).f0), .int .i64 ((rd_T56 l0 Aa).f1), .int .i64 a2, .int .i64 a3, .int .i64 1]] ?_; (with_reducible refine (impl_withLoom.calls _ _ l0 Aa ((rd_T56 l0 Aa).f0) ((rd_T56 l0 Aa).f1) a2 a3 1 Au Av _ ?side1 ?side2 Bd.out).mono ?_); (case side1 => exact Kd.C_below Ao.out Z21); (case side2 => exact Ay.out); rintro e Bh ⟨Bf, rfl, Bc, hb⟩; refine ⟨_, rfl, ?_⟩; have n0_ := aM (Kd.R_lower Bc (below_size Z21)); have n2_ := aM (below_step Z21 hb); clear HB; have Ax := n0_; have HB := n2_; clear n0_ n2_; (try clear hb); (try clear Bc)))
     go_ret2
     exact ⟨_, Z7, by (with_reducible repeat (first | apply Kd.R_alloc | apply Kd.R_drewN | apply Kd.R_drew)); exact Kd.R_mono Ax.out (fun _ hk => trivial), Z21⟩
    ·rw [if_neg Ap] at H
     have c10b0 : (((rd_T56 l0 Aa).f4) == 0) = false := beq_eq_false_iff_ne.mpr Ap; have c10b1 : (((rd_T56 l0 Aa).f4) != 0) = true := bne_iff_ne.mpr Ap
     simp only [Option.some.injEq, Prod.mk.injEq] at H
     obtain ⟨rfl, rfl⟩ := H
     go_enter Try.func34, Try.ntmps34
     go_wp2_with (first | ((with_reducible refine gate_callee (f := 67) rfl ?_); refine glE (some 14) Try.func67 #[.slice A0 l0.length c0, .int .i64 a1] ?_; (with_reducible refine (impl_findLoom.calls _ _ l0 a1 Aa _ ?side1 ?side2 A5.out).mono ?_); (case side1 => exact Z59); (case side2 => exact Ay.out); rintro e Bi ⟨rfl, hb⟩; refine ⟨_, rfl, ?_⟩; replace HB := hbS Z0 hb; (try clear hb); have Am : 0 ≤ (Aa : Int) := of_decide_eq_true Z3; have An : Aa < (l0.length : Int) := of_decide_eq_true Z3; obtain ⟨ad120, e120, Ab, Ac, Ad, Ae, Af⟩ := at_T56 Ao.out Aa Am An; cases e120; replace Ab := (HB.out.cell (World.block_lt_of_cell? w _ Ab)).trans Ab; replace Ac := (HB.out.cell (World.block_lt_of_cell? w _ Ac)).trans Ac; replace Ad := (HB.out.cell (World.block_lt_of_cell? w _ Ad)).trans Ad; replace Ae := (HB.out.cell (World.block_lt_of_cell? w _ Ae)).trans Ae; replace Af := (HB.out.cell (World.block_lt_of_cell? w _ Af)).trans Af; replace Am := eq_true Am; replace An := eq_true An))
     go_ret2
     exact ⟨_, Z7, Z43, Z0⟩
   ·rw [if_neg c9] at H
    exact absurd H (by simp)
  ·rw [if_neg c8] at H
   exact absurd H (by simp)
def IsS77 (w0 W : World) (g : Nat) (f0 : List Int) (f1 : Int) (f2 : Int) : Prop := ∃ A0 c0, W.heap[g]? = some (.cells #[.slice A0 f0.length c0, .int .i64 f1, .int .u64 f2] 77 (0, 0)) ∧ w0.heap.size ≤ g ∧ Kd.C (Kd.int .u8) w0 A0 f0.length f0
theorem IsS77.grown {w0 W : World} {g : Nat} {f0 : List Int} {f1 : Int} {f2 : Int} {W1 : World} {row : Option Nat} (h : IsS77 w0 W g f0 f1 f2) (hw : W.grownBy W1 row) (hne : some g ≠ row) : IsS77 w0 W1 g f0 f1 f2 := by
 obtain ⟨A0, c0, hb, hg, Aa⟩ := h
 exact ⟨A0, c0, blk_grown hb hw hne, hg, Aa⟩
theorem IsS77.kept {w0 W : World} {g : Nat} {f0 : List Int} {f1 : Int} {f2 : Int} {W1 : World} {S : Nat → Prop} (h : IsS77 w0 W g f0 f1 f2) (hk : Kept W W1 S) (hne : ¬ S g) : IsS77 w0 W1 g f0 f1 f2 := by
 obtain ⟨A0, c0, hb, hg, Aa⟩ := h
 exact ⟨A0, c0, blk_kept hb hk hne, hg, Aa⟩
theorem IsS77.below {w0 W : World} {g : Nat} {f0 : List Int} {f1 : Int} {f2 : Int} {W1 : World} (h : IsS77 w0 W g f0 f1 f2) (hw : Below W.heap.size W W1) : IsS77 w0 W1 g f0 f1 f2 := h.grown (grown_of_below hw none) (by simp)
theorem IsS77.alloc {w0 W : World} {g : Nat} {f0 : List Int} {f1 : Int} {f2 : Int} (h : IsS77 w0 W g f0 f1 f2) (o : Obj) : IsS77 w0 (W.alloc o) g f0 f1 f2 := h.below (below_alloc (Below.refl _ _) o)
theorem IsS77.drewN {w0 W : World} {g : Nat} {f0 : List Int} {f1 : Int} {f2 : Int} (h : IsS77 w0 W g f0 f1 f2) (m : Nat) : IsS77 w0 (W.drewN m) g f0 f1 f2 := h
theorem IsS77.drew {w0 W : World} {g : Nat} {f0 : List Int} {f1 : Int} {f2 : Int} (h : IsS77 w0 W g f0 f1 f2) : IsS77 w0 W.drew g f0 f1 f2 := h
theorem IsS77.at_ {w0 W : World} {g : Nat} {f0 : List Int} {f1 : Int} {f2 : Int} {w' : World} {m : Nat} (hq : W.drewN m = w') (h : IsS77 w0 W g f0 f1 f2) : IsS77 w0 w' g f0 f1 f2 := by subst hq; exact IsS77.drewN h m
theorem IsS77.apart {w0 W : World} {g : Nat} {f0 : List Int} {f1 : Int} {f2 : Int} {α : Type} {d : Kd α} {e : Nat} {base : Nat} {ok : Nat → Prop} {v : Value} {xs : List α} (h : IsS77 w0 W g f0 f1 f2) (ho : d.R e W base ok v xs) (ht : ∀ q, q ∈ e :: d.E → q ≠ 77) : d.R e W base (fun k => ok k ∧ k ≠ g) v xs := by
 obtain ⟨A0, c0, hb, hg, Aa⟩ := h
 exact Kd.R_types ho hb ht
theorem IsS77.own_ne {w0 W : World} {g : Nat} {f0 : List Int} {f1 : Int} {f2 : Int} {α : Type} {d : Kd α} {e : Nat} {base : Nat} {ok : Nat → Prop} {v : Value} {xs : List α} (h : IsS77 w0 W g f0 f1 f2) (ho : d.R e W base ok v xs) (ht : e ≠ 77) : some g ≠ v.ownBlock := by
 obtain ⟨A0, c0, hb, hg, Aa⟩ := h
 exact Kd.R_ne ho hb ht
theorem IsS77.lt {w0 W : World} {g : Nat} {f0 : List Int} {f1 : Int} {f2 : Int} (h : IsS77 w0 W g f0 f1 f2) : g < W.heap.size := by
 obtain ⟨A0, c0, hb, hg, Aa⟩ := h
 exact blk_lt hb
theorem IsS77.ge {w0 W : World} {g : Nat} {f0 : List Int} {f1 : Int} {f2 : Int} (h : IsS77 w0 W g f0 f1 f2) : w0.heap.size ≤ g := by
 obtain ⟨A0, c0, hb, hg, Aa⟩ := h
 exact hg
theorem IsS77.far {w0 W : World} {g : Nat} {f0 : List Int} {f1 : Int} {f2 : Int} {p : Addr} (h : IsS77 w0 W g f0 f1 f2) (hne : g ≠ p.block) (u : Value) : IsS77 w0 (W.setCell p u) g f0 f1 f2 := by
 obtain ⟨A0, c0, hb, hg, Aa⟩ := h
 exact ⟨A0, c0, blk_far hb hne u, hg, Aa⟩
theorem cellS77_0 {W : World} {g : Nat} {A0 : Option Addr} {c0 : Nat} {f0 : List Int} {f1 : Int} {f2 : Int} (h : W.heap[g]? = some (.cells #[.slice A0 f0.length c0, .int .i64 f1, .int .u64 f2] 77 (0, 0))) : W.cell? ⟨g, 0, none⟩ = some (.slice A0 f0.length c0) := (blk_cell h 0).trans rfl
theorem cellS77_1 {W : World} {g : Nat} {A0 : Option Addr} {c0 : Nat} {f0 : List Int} {f1 : Int} {f2 : Int} (h : W.heap[g]? = some (.cells #[.slice A0 f0.length c0, .int .i64 f1, .int .u64 f2] 77 (0, 0))) : W.cell? ⟨g, 1, none⟩ = some (.int .i64 f1) := (blk_cell h 1).trans rfl
theorem IsS77.set_1 {w0 W : World} {g : Nat} {f0 : List Int} {f1 : Int} {f2 : Int} (h : IsS77 w0 W g f0 f1 f2) (x : Int) : IsS77 w0 (W.setCell ⟨g, 1, none⟩ (.int .i64 x)) g f0 x f2 := by
 obtain ⟨A0, c0, hb, hg, Aa⟩ := h
 exact ⟨A0, c0, by simpa using blk_set hb 1 (.int .i64 x), hg, Aa⟩
theorem cellS77_2 {W : World} {g : Nat} {A0 : Option Addr} {c0 : Nat} {f0 : List Int} {f1 : Int} {f2 : Int} (h : W.heap[g]? = some (.cells #[.slice A0 f0.length c0, .int .i64 f1, .int .u64 f2] 77 (0, 0))) : W.cell? ⟨g, 2, none⟩ = some (.int .u64 f2) := (blk_cell h 2).trans rfl
theorem IsS77.set_2 {w0 W : World} {g : Nat} {f0 : List Int} {f1 : Int} {f2 : Int} (h : IsS77 w0 W g f0 f1 f2) (x : Int) : IsS77 w0 (W.setCell ⟨g, 2, none⟩ (.int .u64 x)) g f0 f1 x := by
 obtain ⟨A0, c0, hb, hg, Aa⟩ := h
 exact ⟨A0, c0, by simpa using blk_set hb 2 (.int .u64 x), hg, Aa⟩
def spec_l1Cur_next.f (s0_0 : List Int) (s0_1 : Int) (s0_2 : Int) : Option (Int × Int × Int) := if s0_1 < (s0_0.length : Int) then (if 0 ≤ s0_1 then (if (wrap64 (s0_1 + 1)) ≤ (s0_0.length : Int) then (some (wrap64 (rd s0_0 s0_1), wrap64 (s0_1 + 1), IntKind.u64.wrap ((IntKind.u64.wrap ((IntKind.u64.wrap (s0_2 * 6364136223846793005)) + (IntKind.u64.wrap (wrap64 (rd s0_0 s0_1))))) + 102323))) else (some (wrap64 (Go.bits .and .u64 ((IntKind.u64.wrap ((IntKind.u64.wrap ((IntKind.u64.wrap (s0_2 * 6364136223846793005)) + (IntKind.u64.wrap (wrap64 (rd s0_0 s0_1))))) + 102323)) / 1099511627776) 255), wrap64 (s0_1 + 1), IntKind.u64.wrap ((IntKind.u64.wrap ((IntKind.u64.wrap (s0_2 * 6364136223846793005)) + (IntKind.u64.wrap (wrap64 (rd s0_0 s0_1))))) + 102323)))) else (none)) else (if (wrap64 (s0_1 + 1)) ≤ (s0_0.length : Int) then (some (0, wrap64 (s0_1 + 1), IntKind.u64.wrap ((IntKind.u64.wrap ((IntKind.u64.wrap (s0_2 * 6364136223846793005)))) + 102323))) else (some (wrap64 (Go.bits .and .u64 ((IntKind.u64.wrap ((IntKind.u64.wrap ((IntKind.u64.wrap (s0_2 * 6364136223846793005)))) + 102323)) / 1099511627776) 255), wrap64 (s0_1 + 1), IntKind.u64.wrap ((IntKind.u64.wrap ((IntKind.u64.wrap (s0_2 * 6364136223846793005)))) + 102323))))
theorem spec_l1Cur_next.calls (g : Nat) (Ab : List Int) (Aa : Int) (Ad : Int) (r1 : Int) (r2 : Int) (r3 : Int) (w0 w : World) (hI : IsS77 w0 w g Ab Aa Ad) (hB : Below w0.heap.size w0 w) (h : spec_l1Cur_next.f Ab Aa Ad = some (r1, r2, r3)) :
  Calls Try.prog 101 #[.pointer (some ⟨g, 0, none⟩)] w fun e w' => e = .returned (.int .i64 r1) ∧ IsS77 w0 w' g Ab r2 r3 ∧ Below w0.heap.size w0 w' ∧ KeepBut w w' g none := by
 have HI0 := Aside0.mk hI; have HK := aM (KeepBut.refl w g none); have HL := Aside0.mk hB.size; clear hI; have Bc := Aside0.mk hB.size; have HB := Aside0.mk hB; clear hB; have H : (if Aa < (Ab.length : Int) then (if 0 ≤ Aa then (if (wrap64 (Aa + 1)) ≤ (Ab.length : Int) then (some (wrap64 (rd Ab Aa), wrap64 (Aa + 1), IntKind.u64.wrap ((IntKind.u64.wrap ((IntKind.u64.wrap (Ad * 6364136223846793005)) + (IntKind.u64.wrap (wrap64 (rd Ab Aa))))) + 102323))) else (some (wrap64 (Go.bits .and .u64 ((IntKind.u64.wrap ((IntKind.u64.wrap ((IntKind.u64.wrap (Ad * 6364136223846793005)) + (IntKind.u64.wrap (wrap64 (rd Ab Aa))))) + 102323)) / 1099511627776) 255), wrap64 (Aa + 1), IntKind.u64.wrap ((IntKind.u64.wrap ((IntKind.u64.wrap (Ad * 6364136223846793005)) + (IntKind.u64.wrap (wrap64 (rd Ab Aa))))) + 102323)))) else (none)) else (if (wrap64 (Aa + 1)) ≤ (Ab.length : Int) then (some (0, wrap64 (Aa + 1), IntKind.u64.wrap ((IntKind.u64.wrap ((IntKind.u64.wrap (Ad * 6364136223846793005)))) + 102323))) else (some (wrap64 (Go.bits .and .u64 ((IntKind.u64.wrap ((IntKind.u64.wrap ((IntKind.u64.wrap (Ad * 6364136223846793005)))) + 102323)) / 1099511627776) 255), wrap64 (Aa + 1), IntKind.u64.wrap ((IntKind.u64.wrap ((IntKind.u64.wrap (Ad * 6364136223846793005)))) + 102323))))) = some (r1, r2, r3) := h; clear h
 by_cases c2 : Aa < (Ab.length : Int)
 ·rw [if_pos c2] at H
  have c2b0 : decide (Aa < (Ab.length : Int)) = true := decide_eq_true c2; clear c2
  by_cases c3 : 0 ≤ Aa
  ·rw [if_pos c3] at H
   have c3b0 : decide (0 ≤ Aa) = true := decide_eq_true c3; clear c3
   by_cases c4 : (wrap64 (Aa + 1)) ≤ (Ab.length : Int)
   ·rw [if_pos c4] at H
    have c4b0 : decide ((wrap64 (Aa + 1)) ≤ (Ab.length : Int)) = true := decide_eq_true c4; clear c4
    simp only [Option.some.injEq, Prod.mk.injEq] at H
    obtain ⟨rfl, rfl, rfl⟩ := H; obtain ⟨ASz5_0, cSz5_0, HGz5, hgz5, HSz5_0⟩ := HI0.out; have Ag := cellS77_0 HGz5; have Ah := cellS77_1 HGz5; have Ai := cellS77_2 HGz5; have Aj := blk_frozen HGz5 1; have Ak := blk_frozen HGz5 2; clear HGz5 hgz5; have Ae : 0 ≤ (Aa : Int) := of_decide_eq_true Z3; have Af : Aa < (Ab.length : Int) := of_decide_eq_true Z3; obtain ⟨ad127, e127, Ac⟩ := Kd.at_int HSz5_0 Aa Ae Af; cases e127; replace Ac := pw_cell_below HB.out Ac; replace Ae := eq_true Ae; replace Af := eq_true Af
    go_enter Try.func101, Try.ntmps101
    go_wp2
    repeat (go_quiet (fail); try go_wp2)
    go_ret
    exact ⟨Z7, Z1, Z6, Z5⟩
   ·rw [if_neg c4] at H
    have c4b0 : decide ((wrap64 (Aa + 1)) ≤ (Ab.length : Int)) = false := decide_eq_false c4; clear c4
    simp only [Option.some.injEq, Prod.mk.injEq] at H
    obtain ⟨rfl, rfl, rfl⟩ := H; obtain ⟨ASz6_0, cSz6_0, HGz6, hgz6, HSz6_0⟩ := HI0.out; have Al := cellS77_0 HGz6; have Am := cellS77_1 HGz6; have An := cellS77_2 HGz6; have Ao := blk_frozen HGz6 1; have Ap := blk_frozen HGz6 2; clear HGz6 hgz6; have Ae : 0 ≤ (Aa : Int) := of_decide_eq_true Z3; have Af : Aa < (Ab.length : Int) := of_decide_eq_true Z3; obtain ⟨ad127, e127, Ac⟩ := Kd.at_int HSz6_0 Aa Ae Af; cases e127; replace Ac := pw_cell_below HB.out Ac; replace Ae := eq_true Ae; replace Af := eq_true Af
    go_enter Try.func101, Try.ntmps101
    go_wp2
    repeat (go_quiet (fail); try go_wp2)
    go_ret
    exact ⟨Z7, Z1, Z6, Z5⟩
  ·rw [if_neg c3] at H
   exact absurd H (by simp)
 ·rw [if_neg c2] at H
  have c2b0 : decide (Aa < (Ab.length : Int)) = false := decide_eq_false c2; clear c2
  by_cases c7 : (wrap64 (Aa + 1)) ≤ (Ab.length : Int)
  ·rw [if_pos c7] at H
   have c7b0 : decide ((wrap64 (Aa + 1)) ≤ (Ab.length : Int)) = true := decide_eq_true c7; clear c7
   simp only [Option.some.injEq, Prod.mk.injEq] at H
   obtain ⟨rfl, rfl, rfl⟩ := H; obtain ⟨ASz8_0, cSz8_0, HGz8, hgz8, HSz8_0⟩ := HI0.out; have Aq := cellS77_0 HGz8; have Ar := cellS77_1 HGz8; have Au := cellS77_2 HGz8; have Av := blk_frozen HGz8 1; have Aw := blk_frozen HGz8 2; clear HGz8 hgz8
   go_enter Try.func101, Try.ntmps101
   go_wp2
   repeat (go_quiet (fail); try go_wp2)
   go_ret
   exact ⟨Z7, Z1, Z6, Z5⟩
  ·rw [if_neg c7] at H
   have c7b0 : decide ((wrap64 (Aa + 1)) ≤ (Ab.length : Int)) = false := decide_eq_false c7; clear c7
   simp only [Option.some.injEq, Prod.mk.injEq] at H
   obtain ⟨rfl, rfl, rfl⟩ := H; obtain ⟨ASz9_0, cSz9_0, HGz9, hgz9, HSz9_0⟩ := HI0.out; have Ax := cellS77_0 HGz9; have Ay := cellS77_1 HGz9; have Az := cellS77_2 HGz9; have Ba := blk_frozen HGz9 1; have Bb := blk_frozen HGz9 2; clear HGz9 hgz9
   go_enter Try.func101, Try.ntmps101
   go_wp2
   repeat (go_quiet (fail); try go_wp2)
   go_ret
   exact ⟨Z7, Z1, Z6, Z5⟩
def spec_l1Cur_pick.f (s0_0 : List Int) (s0_1 : Int) (s0_2 : Int) (a1 : Int) : Option (Int × Int × Int) := if a1 ≤ 1 then (some (0, s0_1, s0_2)) else ((spec_l1Cur_next.f s0_0 s0_1 s0_2).bind fun bt128 => (if a1 > 200 then ((spec_l1Cur_next.f s0_0 bt128.2.1 bt128.2.2).bind fun bt131 => (if a1 = 0 then (none) else (some (Int.tmod (wrap64 ((wrap64 (bt128.1 * 256)) + bt131.1)) a1, bt131.2.1, bt131.2.2)))) else (if a1 = 0 then (none) else (some (Int.tmod bt128.1 a1, bt128.2.1, bt128.2.2)))))
theorem spec_l1Cur_pick.calls (g : Nat) (Ac : List Int) (Ad : Int) (Ae : Int) (a1 : Int) (r1 : Int) (r2 : Int) (r3 : Int) (w0 w : World) (hI : IsS77 w0 w g Ac Ad Ae) (hB : Below w0.heap.size w0 w) (h : spec_l1Cur_pick.f Ac Ad Ae a1 = some (r1, r2, r3)) :
  Calls Try.prog 66 #[.pointer (some ⟨g, 0, none⟩), .int .i64 a1] w fun e w' => e = .returned (.int .i64 r1) ∧ IsS77 w0 w' g Ac r2 r3 ∧ Below w0.heap.size w0 w' ∧ KeepBut w w' g none := by
 have HI0 := Aside0.mk hI; have HK := aM (KeepBut.refl w g none); have HL := Aside0.mk hB.size; clear hI; have Ao := Aside0.mk hB.size; have HB := Aside0.mk hB; clear hB; have H : (if a1 ≤ 1 then (some (0, Ad, Ae)) else ((spec_l1Cur_next.f Ac Ad Ae).bind fun Ab => (if a1 > 200 then ((spec_l1Cur_next.f Ac Ab.2.1 Ab.2.2).bind fun Aa => (if a1 = 0 then (none) else (some (Int.tmod (wrap64 ((wrap64 (Ab.1 * 256)) + Aa.1)) a1, Aa.2.1, Aa.2.2)))) else (if a1 = 0 then (none) else (some (Int.tmod Ab.1 a1, Ab.2.1, Ab.2.2)))))) = some (r1, r2, r3) := h; clear h
 by_cases c3 : a1 ≤ 1
 ·rw [if_pos c3] at H
  have c3b0 : decide (a1 ≤ 1) = true := decide_eq_true c3; clear c3
  simp only [Option.some.injEq, Prod.mk.injEq] at H
  obtain ⟨rfl, rfl, rfl⟩ := H
  go_enter Try.func66, Try.ntmps66
  go_wp2
  go_ret
  exact ⟨Z7, Z1, Z6, Z5⟩
 ·rw [if_neg c3] at H
  have c3b0 : decide (a1 ≤ 1) = false := decide_eq_false c3; clear c3; replace H := Option.bind_eq_some_iff.mp H; obtain ⟨⟨Af, Ag, Ah⟩, Am, H⟩ := H; replace H : (if a1 > 200 then ((spec_l1Cur_next.f Ac Ag Ah).bind fun Aa => (if a1 = 0 then (none) else (some (Int.tmod (wrap64 ((wrap64 (Af * 256)) + Aa.1)) a1, Aa.2.1, Aa.2.2)))) else (if a1 = 0 then (none) else (some (Int.tmod Af a1, Ag, Ah)))) = some (r1, r2, r3) := H; have A4 := Aside0.mk Am; clear Am
  by_cases c5 : a1 > 200
  ·rw [if_pos c5] at H
   have c5b0 : decide (200 < a1) = true := decide_eq_true c5; clear c5; replace H := Option.bind_eq_some_iff.mp H; obtain ⟨⟨Ai, Aj, Ak⟩, An, H⟩ := H; replace H : (if a1 = 0 then (none) else (some (Int.tmod (wrap64 ((wrap64 (Af * 256)) + Ai)) a1, Aj, Ak))) = some (r1, r2, r3) := H; have A6 := Aside0.mk An; clear An
   by_cases c7 : a1 = 0
   ·rw [if_pos c7] at H
    exact absurd H (by simp)
   ·rw [if_neg c7] at H
    have c7b0 : (a1 == 0) = false := beq_eq_false_iff_ne.mpr c7; have c7b1 : (a1 != 0) = true := bne_iff_ne.mpr c7
    simp only [Option.some.injEq, Prod.mk.injEq] at H
    obtain ⟨rfl, rfl, rfl⟩ := H
    go_enter Try.func66, Try.ntmps66
    go_wp2_with (first | ((with_reducible refine gate_callee (f := 101) rfl ?_); refine glE (some 9) Try.func101 #[.pointer (some ⟨g, 0, none⟩)] ?_; (with_reducible refine (spec_l1Cur_next.calls g Ac Ad Ae Af Ag Ah w0 _ ?side1 ?side2 A4.out).mono ?_); (case side1 => exact Z1); (case side2 => exact Z6); rintro e w8 ⟨rfl, hi, hb, hk⟩; refine ⟨_, rfl, ?_⟩; replace HK := aM (KeepBut.trans Z5 hk (.inl rfl)); replace HB := aM (hb); replace HI0 := aM (hi); (try clear hb); (try clear hk); (try clear hi)) | ((with_reducible refine gate_callee (f := 101) rfl ?_); refine glE (some 15) Try.func101 #[.pointer (some ⟨g, 0, none⟩)] ?_; (with_reducible refine (spec_l1Cur_next.calls g Ac Ag Ah Ai Aj Ak w0 _ ?side1 ?side2 A6.out).mono ?_); (case side1 => exact Z1); (case side2 => exact Z6); rintro e w9 ⟨rfl, hi, hb, hk⟩; refine ⟨_, rfl, ?_⟩; replace HK := aM (KeepBut.trans Z5 hk (.inl rfl)); replace HB := aM (hb); replace HI0 := aM (hi); (try clear hb); (try clear hk); (try clear hi)))
    go_ret
    exact ⟨Z7, Z1, Z6, Z5⟩
  ·rw [if_neg c5] at H
   have c5b0 : decide (200 < a1) = false := decide_eq_false c5; clear c5
   by_cases Al : a1 = 0
   ·rw [if_pos Al] at H
    exact absurd H (by simp)
   ·rw [if_neg Al] at H
    have c10b0 : (a1 == 0) = false := beq_eq_false_iff_ne.mpr Al; have c10b1 : (a1 != 0) = true := bne_iff_ne.mpr Al
    simp only [Option.some.injEq, Prod.mk.injEq] at H
    obtain ⟨rfl, rfl, rfl⟩ := H
    go_enter Try.func66, Try.ntmps66
    go_wp2_with (first | ((with_reducible refine gate_callee (f := 101) rfl ?_); refine glE (some 9) Try.func101 #[.pointer (some ⟨g, 0, none⟩)] ?_; (with_reducible refine (spec_l1Cur_next.calls g Ac Ad Ae Af Ag Ah w0 _ ?side1 ?side2 A4.out).mono ?_); (case side1 => exact Z1); (case side2 => exact Z6); rintro e Ap ⟨rfl, hi, hb, hk⟩; refine ⟨_, rfl, ?_⟩; replace HK := aM (KeepBut.trans Z5 hk (.inl rfl)); replace HB := aM (hb); replace HI0 := aM (hi); (try clear hb); (try clear hk); (try clear hi)))
    go_ret
    exact ⟨Z7, Z1, Z6, Z5⟩
def spec_l1Cur_among.f (s0_0 : List Int) (s0_1 : Int) (s0_2 : Int) (l1 : List Int) : Option (Int × Int × Int) := (spec_l1Cur_pick.f s0_0 s0_1 s0_2 (l1.length : Int)).bind fun bt134 => (if 0 ≤ bt134.1 then (if bt134.1 < (l1.length : Int) then (some (rd l1 bt134.1, bt134.2.1, bt134.2.2)) else (none)) else (none))
theorem spec_l1Cur_among.calls (g : Nat) (Ad : List Int) (Ae : Int) (Af : Int) (A1 : Option Addr) (c1 : Nat) (l1 : List Int) (r1 : Int) (r2 : Int) (r3 : Int) (w0 w : World) (hI : IsS77 w0 w g Ad Ae Af) (hB : Below w0.heap.size w0 w) (Al : Kd.C (Kd.int .i64) w A1 l1.length l1) (Am : l1.length ≤ c1) (Ak : ∀ ad, A1 = some ad → 0 < l1.length → ad.block ≠ g) (h : spec_l1Cur_among.f Ad Ae Af l1 = some (r1, r2, r3)) :
  Calls Try.prog 65 #[.pointer (some ⟨g, 0, none⟩), .slice A1 l1.length c1] w fun e w' => e = .returned (.int .i64 r1) ∧ IsS77 w0 w' g Ad r2 r3 ∧ Below w0.heap.size w0 w' ∧ KeepBut w w' g none := by
 have Ao := Aside0.mk Al; have Ap := Aside0.mk Am; clear Al Am; have HI0 := Aside0.mk hI; have HK := aM (KeepBut.refl w g none); have HL := Aside0.mk hB.size; clear hI; have Aq := Aside0.mk hB.size; have HB := Aside0.mk hB; clear hB; have H : ((spec_l1Cur_pick.f Ad Ae Af (l1.length : Int)).bind fun Ab => (if 0 ≤ Ab.1 then (if Ab.1 < (l1.length : Int) then (some (rd l1 Ab.1, Ab.2.1, Ab.2.2)) else (none)) else (none))) = some (r1, r2, r3) := h; clear h; replace H := Option.bind_eq_some_iff.mp H; obtain ⟨⟨Aa, Ai, Aj⟩, An, H⟩ := H; replace H : (if 0 ≤ Aa then (if Aa < (l1.length : Int) then (some (rd l1 Aa, Ai, Aj)) else (none)) else (none)) = some (r1, r2, r3) := H; have A3 := Aside0.mk An; clear An
 by_cases c4 : 0 ≤ Aa
 ·rw [if_pos c4] at H
  have c4b0 : decide (0 ≤ Aa) = true := decide_eq_true c4; clear c4
  by_cases c5 : Aa < (l1.length : Int)
  ·rw [if_pos c5] at H
   have c5b0 : decide (Aa < (l1.length : Int)) = true := decide_eq_true c5; clear c5
   simp only [Option.some.injEq, Prod.mk.injEq] at H
   obtain ⟨rfl, rfl, rfl⟩ := H
   go_enter Try.func65, Try.ntmps65
   go_wp2_with (first | ((with_reducible refine gate_callee (f := 66) rfl ?_); refine glE (some 9) Try.func66 #[.pointer (some ⟨g, 0, none⟩), .int .i64 (l1.length : Int)] ?_; (with_reducible refine (spec_l1Cur_pick.calls g Ad Ae Af (l1.length : Int) Aa Ai Aj w0 _ ?side1 ?side2 A3.out).mono ?_); (case side1 => exact Z1); (case side2 => exact Z6); rintro e w6 ⟨rfl, hi, hb, hk⟩; refine ⟨_, rfl, ?_⟩; replace HK := aM (KeepBut.trans Z5 hk (.inl rfl)); replace HB := aM (hb); replace HI0 := aM (hi); (try clear hb); (try clear hk); (try clear hi); have Ag : 0 ≤ (Aa : Int) := of_decide_eq_true Z3; have Ah : Aa < (l1.length : Int) := of_decide_eq_true Z3; obtain ⟨ad137, e137, Ac⟩ := Kd.at_int Ao.out Aa Ag Ah; cases e137; replace Ac := keep_cell HK.out Ac (by first | (rw [add_block]; exact Ak _ rfl (by omega)) | exact Ak _ rfl (by omega) | exact Ak ad137 rfl (by omega)); replace Ag := eq_true Ag; replace Ah := eq_true Ah))
   go_ret
   exact ⟨Z7, Z1, Z6, Z5⟩
  ·rw [if_neg c5] at H
   exact absurd H (by simp)
 ·rw [if_neg c4] at H
  exact absurd H (by simp)
def spec_l1Least.f (a0 : Int) (a1 : Int) : Option (Int) := if a0 < a1 then (some a0) else (some a1)
theorem spec_l1Least.calls (a0 : Int) (a1 : Int) (r : Int) (w : World) (h : spec_l1Least.f a0 a1 = some r) :
  Calls Try.prog 108 #[.int .i64 a0, .int .i64 a1] w fun e w' => e = .returned (.int .i64 r) ∧ Drawn0 w w' := by
 have H : (if a0 < a1 then (some a0) else (some a1)) = some r := h; clear h
 by_cases c3 : a0 < a1
 ·rw [if_pos c3] at H
  have c3b0 : decide (a0 < a1) = true := decide_eq_true c3; clear c3; obtain rfl := Option.some.inj H
  go_enter Try.func108, Try.ntmps108
  go_wp2
  go_ret
  exact ⟨Z11, Z42⟩
 ·rw [if_neg c3] at H
  have c3b0 : decide (a0 < a1) = false := decide_eq_false c3; clear c3; obtain rfl := Option.some.inj H
  go_enter Try.func108, Try.ntmps108
  go_wp2
  go_ret
  exact ⟨Z11, Z42⟩
end Go.Proofs.Ytplhkmeoeojinaa.H
