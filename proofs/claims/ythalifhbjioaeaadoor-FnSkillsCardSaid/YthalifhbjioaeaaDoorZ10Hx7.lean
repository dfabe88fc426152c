-- by wip/pack.py of this repo
import Derived.Test.YthalifhbjioaeaaDoorZ10Hx0
import Derived.Test.YthalifhbjioaeaaDoorZ10WWords
import Derived.Test.YthalifhbjioaeaaDoorZ10Short
namespace Go.Proofs.YthalifhbjioaeaaDoor.H
open Go.RowKit Go.Proofs.YthalifhbjioaeaaDoorW.PrintWords
set_option maxHeartbeats 8000000
set_option maxRecDepth 100000
set_option linter.unusedVariables false
set_option linter.unusedSimpArgs false
def spec_l11Seats.l0 : Nat → List (S26) → Int → Int → Int → Option (Int)
 | 0, _, _, _, _ => none
 | k + 1, x0, x1, x5, x6 => if x6 < (x0.length : Int) then (if 0 ≤ x6 then (if ((rd_T26 x0 x6).f4) = x1 then (spec_l11Seats.l0 k x0 x1 (wrap64 (x5 + 1)) (wrap64 (x6 + 1))) else (spec_l11Seats.l0 k x0 x1 x5 (wrap64 (x6 + 1)))) else (none)) else (some x5)
def spec_l11Seats.f (k : Nat) (l0 : List (S26)) (a1 : Int) : Option (Int) := spec_l11Seats.l0 k l0 a1 0 0
theorem spec_l11Seats.calls (k : Nat) (A0 : Option Addr) (c0 : Nat) (l0 : List (S26)) (a1 : Int) (r : Int) (w : World) (Aj : Kd.C k26 w A0 l0.length l0) (Ak : l0.length ≤ c0) (h : spec_l11Seats.f k l0 a1 = some r) :
  Calls Tryd.prog 73 #[.slice A0 l0.length c0, .int .i64 a1] w fun e w' => e = .returned (.int .i64 r) ∧ Drawn0 w w' := by
 have Al := Aside0.mk Aj; have Am := Aside0.mk Ak; clear Aj Ak; have H : (spec_l11Seats.l0 k l0 a1 0 0) = some r := h; clear h; have H' := Aside0.mk H; clear H
 go_enter Tryd.func73, Tryd.ntmps73
 go_wp2
 go_loopg [5, 6] k (fun kq v5 v6 w' => ∃ (Ad : Int) (Aa : Int), v5 = .int .i64 Ad ∧ v6 = .int .i64 Aa ∧ Aside0 (spec_l11Seats.l0 kq l0 a1 Ad Aa = some r) ∧ Aside0 (kq ≤ k) ∧ Drawn0 w w')
 case atStart => exact ⟨(0), (0), Z15, Z15, H', ⟨Nat.le_refl _⟩, Z27⟩
 case round =>
  clear H'; (try clear p2); obtain ⟨Ad, Aa, rfl, rfl, HA, HK1, ⟨m1, rfl⟩⟩ := hrel; cases gk with
  | zero => exact absurd HA.out (by simp [spec_l11Seats.l0])
  | succ k1 =>
   have H := HA.out; clear HA
   simp only [spec_l11Seats.l0] at H
   by_cases c3 : Aa < (l0.length : Int)
   ·rw [if_pos c3] at H
    have c3b0 : decide (Aa < (l0.length : Int)) = true := decide_eq_true c3; clear c3
    by_cases c4 : 0 ≤ Aa
    ·rw [if_pos c4] at H
     have c4b0 : decide (0 ≤ Aa) = true := decide_eq_true c4; clear c4
     by_cases c5 : ((rd_T26 l0 Aa).f4) = a1
     ·rw [if_pos c5] at H
      have c5b0 : (((rd_T26 l0 Aa).f4) == a1) = true := beq_iff_eq.mpr c5; have c5b1 : (((rd_T26 l0 Aa).f4) != a1) = false := bne_eq_false_iff_eq.mpr c5; clear c5; have H' := Aside0.mk H; clear H; have Ab : 0 ≤ (Aa : Int) := of_decide_eq_true Z10; have Ac : Aa < (l0.length : Int) := of_decide_eq_true Z10; obtain ⟨ad139, e139, Ae, Af, Ag, Ah, Ai⟩ := at_T26 Al.out Aa Ab Ac; cases e139; replace Ab := eq_true Ab; replace Ac := eq_true Ac
      go_wp2
      go_roundg k1
      case measure => have := HK1.out; omega
      case rel => exact ⟨(wrap64 (Ad + 1)), (wrap64 (Aa + 1)), Z15, Z15, H', ⟨Z66⟩, Z27⟩
     ·rw [if_neg c5] at H
      have c5b0 : (((rd_T26 l0 Aa).f4) == a1) = false := beq_eq_false_iff_ne.mpr c5; have c5b1 : (((rd_T26 l0 Aa).f4) != a1) = true := bne_iff_ne.mpr c5; have H' := Aside0.mk H; clear H; have Ab : 0 ≤ (Aa : Int) := of_decide_eq_true Z10; have Ac : Aa < (l0.length : Int) := of_decide_eq_true Z10; obtain ⟨ad139, e139, Ae, Af, Ag, Ah, Ai⟩ := at_T26 Al.out Aa Ab Ac; cases e139; replace Ab := eq_true Ab; replace Ac := eq_true Ac
      go_wp2
      go_roundg k1
      case measure => have := HK1.out; omega
      case rel => exact ⟨(Ad), (wrap64 (Aa + 1)), Z15, Z15, H', ⟨Z66⟩, Z27⟩
    ·rw [if_neg c4] at H
     exact absurd H (by simp)
   ·rw [if_neg c3] at H
    have c3b0 : decide (Aa < (l0.length : Int)) = false := decide_eq_false c3; clear c3; obtain rfl := Option.some.inj H
    go_wp2
    go_ret
    exact ⟨Z15, Z27⟩
end Go.Proofs.YthalifhbjioaeaaDoor.H
