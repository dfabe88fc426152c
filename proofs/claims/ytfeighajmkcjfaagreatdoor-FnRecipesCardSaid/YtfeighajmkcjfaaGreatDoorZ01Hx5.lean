-- by wip/pack.py of this repo
import Derived.Test.YtfeighajmkcjfaaGreatDoorZ01Hx0
import Derived.Test.YtfeighajmkcjfaaGreatDoorZ01WLast
import Derived.Test.YtfeighajmkcjfaaGreatDoorZ01WMore
import Derived.Test.YtfeighajmkcjfaaGreatDoorZ01WWords
import Derived.Test.YtfeighajmkcjfaaGreatDoorZ01Short
namespace Go.Proofs.YtfeighajmkcjfaaGreatDoor.H
open Go.RowKit Go.Proofs.YtfeighajmkcjfaaGreatDoorW.PrintWords Go.Proofs.YtfeighajmkcjfaaGreatDoorW.PrintLast Go.Proofs.YtfeighajmkcjfaaGreatDoorW.PrintMore
attribute [local go_sem] max2_int min2_int max_two min_two max_three min_three max_four min_four
set_option maxHeartbeats 8000000
set_option maxRecDepth 100000
set_option linter.unusedVariables false
set_option linter.unusedSimpArgs false
def spec_l1In.f (a0 : Int) (a1 : Int) (a2 : Int) : Option (Bool) := if a0 ≥ a1 then (some (decide (a0 ≤ a2))) else (some false)
theorem spec_l1In.calls (a0 : Int) (a1 : Int) (a2 : Int) (r : Bool) (w : World) (h : spec_l1In.f a0 a1 a2 = some r) :
  Calls Tryz.prog 28 #[.int .i64 a0, .int .i64 a1, .int .i64 a2] w fun e w' => e = .returned (.bool r) ∧ Drawn0 w w' := by
 have H : (if a0 ≥ a1 then (some (decide (a0 ≤ a2))) else (some false)) = some r := h; clear h
 by_cases c4 : a0 ≥ a1
 ·rw [if_pos c4] at H
  have c4b0 : decide (a1 ≤ a0) = true := decide_eq_true c4; clear c4; obtain rfl := Option.some.inj H
  go_enter Tryz.func28, Tryz.ntmps28
  go_wp2
  go_ret
  exact ⟨Z12, Z37⟩
 ·rw [if_neg c4] at H
  have c4b0 : decide (a1 ≤ a0) = false := decide_eq_false c4; clear c4; obtain rfl := Option.some.inj H
  go_enter Tryz.func28, Tryz.ntmps28
  go_wp2
  go_ret
  exact ⟨Z12, Z37⟩
theorem spec_l1In.eq (a b c : Int) : spec_l1In.f a b c = some (rng a b c) := by
 unfold spec_l1In.f rng; by_cases h : b ≤ a <;> simp [h]
def spec_l2Word.l0 : Nat → ByteArray → Int → Option (Bool)
 | 0, _, _ => none
 | k + 1, x0, x3 => if x3 < (x0.size : Int) then (if 0 ≤ x3 then (if (bt x0 x3) < 97 then (some false) else (if (bt x0 x3) > 122 then (some false) else (spec_l2Word.l0 k x0 (wrap64 (x3 + 1))))) else (none)) else ((spec_l1In.f (x0.size : Int) 1 10).bind fun t238 => (some t238))
def spec_l2Word.f (k : Nat) (a0 : ByteArray) : Option (Bool) := spec_l2Word.l0 k a0 0
theorem spec_l2Word.calls (k : Nat) (a0 : ByteArray) (r : Bool) (w : World) (h : spec_l2Word.f k a0 = some r) :
  Calls Tryz.prog 52 #[.string a0] w fun e w' => e = .returned (.bool r) ∧ Drawn0 w w' := by
 have H : (spec_l2Word.l0 k a0 0) = some r := h; clear h; have H' := Aside0.mk H; clear H
 go_enter Tryz.func52, Tryz.ntmps52
 go_wp2
 go_loopg [3] k (fun kq v3 w' => ∃ (Aa : Int), v3 = .int .i64 Aa ∧ Aside0 (spec_l2Word.l0 kq a0 Aa = some r) ∧ Aside0 (kq ≤ k) ∧ Drawn0 w w')
 case atStart => exact ⟨(0), Z12, H', ⟨Nat.le_refl _⟩, Z37⟩
 case round =>
  clear H'; obtain ⟨Aa, rfl, HA, HK1, ⟨m1, rfl⟩⟩ := hrel; cases gk with
  | zero => exact absurd HA.out (by simp [spec_l2Word.l0])
  | succ k1 =>
   have H := HA.out; clear HA
   simp only [spec_l2Word.l0] at H
   by_cases c2 : Aa < (a0.size : Int)
   ·rw [if_pos c2] at H
    have c2b0 : decide (Aa < (a0.size : Int)) = true := decide_eq_true c2; clear c2
    by_cases c3 : 0 ≤ Aa
    ·rw [if_pos c3] at H
     have c3b0 : decide (0 ≤ Aa) = true := decide_eq_true c3; clear c3
     by_cases c5 : (bt a0 Aa) < 97
     ·rw [if_pos c5] at H
      have c5b0 : decide ((bt a0 Aa) < 97) = true := decide_eq_true c5; clear c5; obtain rfl := Option.some.inj H; have p4 : 0 ≤ (Aa : Int) := of_decide_eq_true Z6; have q4 : Aa < (a0.size : Int) := of_decide_eq_true Z6; have Ac := bt_at a0 Aa; replace p4 := eq_true p4; replace q4 := eq_true q4
      go_wp2
      go_ret
      exact ⟨Z12, Z37⟩
     ·rw [if_neg c5] at H
      have c5b0 : decide ((bt a0 Aa) < 97) = false := decide_eq_false c5; clear c5
      by_cases c7 : (bt a0 Aa) > 122
      ·rw [if_pos c7] at H
       have c7b0 : decide (122 < (bt a0 Aa)) = true := decide_eq_true c7; clear c7; obtain rfl := Option.some.inj H; have p4 : 0 ≤ (Aa : Int) := of_decide_eq_true Z6; have q4 : Aa < (a0.size : Int) := of_decide_eq_true Z6; have Ac := bt_at a0 Aa; replace p4 := eq_true p4; replace q4 := eq_true q4; have p6 : 0 ≤ (Aa : Int) := of_decide_eq_true Z6; have q6 : Aa < (a0.size : Int) := of_decide_eq_true Z6; have Ae := bt_at a0 Aa; replace p6 := eq_true p6; replace q6 := eq_true q6
       go_wp2
       go_ret
       exact ⟨Z12, Z37⟩
      ·rw [if_neg c7] at H
       have c7b0 : decide (122 < (bt a0 Aa)) = false := decide_eq_false c7; clear c7; have H' := Aside0.mk H; clear H; have p4 : 0 ≤ (Aa : Int) := of_decide_eq_true Z6; have q4 : Aa < (a0.size : Int) := of_decide_eq_true Z6; have Ac := bt_at a0 Aa; replace p4 := eq_true p4; replace q4 := eq_true q4; have p6 : 0 ≤ (Aa : Int) := of_decide_eq_true Z6; have q6 : Aa < (a0.size : Int) := of_decide_eq_true Z6; have Ae := bt_at a0 Aa; replace p6 := eq_true p6; replace q6 := eq_true q6
       go_wp2
       go_roundg k1
       case measure => have := HK1.out; omega
       case rel => exact ⟨(wrap64 (Aa + 1)), Z12, H', ⟨Z114⟩, Z37⟩
    ·rw [if_neg c3] at H
     exact absurd H (by simp)
   ·rw [if_neg c2] at H
    have c2b0 : decide (Aa < (a0.size : Int)) = false := decide_eq_false c2; clear c2; replace H := Option.bind_eq_some_iff.mp H; obtain ⟨Ab, Ad, H⟩ := H; replace H : (some Ab) = some r := H; have A8 := Aside0.mk Ad; clear Ad; obtain rfl := Option.some.inj H
    go_wp2_with (first | ((with_reducible refine gate_callee (f := 28) rfl ?_); refine glE (some 22) Tryz.func28 #[.int .i64 (a0.size : Int), .int .i64 1, .int .i64 10] ?_; (with_reducible refine (spec_l1In.calls (a0.size : Int) 1 10 Ab _ A8.out).mono ?_); rintro e w' ⟨rfl, ⟨nd, rfl⟩⟩; refine ⟨_, rfl, ?_⟩))
    go_ret
    exact ⟨Z12, Z37⟩
end Go.Proofs.YtfeighajmkcjfaaGreatDoor.H
