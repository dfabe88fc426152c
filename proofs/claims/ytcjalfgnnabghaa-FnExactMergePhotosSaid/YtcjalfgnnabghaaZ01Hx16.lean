-- by wip/pack.py of this repo
import Derived.Test.YtcjalfgnnabghaaZ01Hx0
import Derived.Test.YtcjalfgnnabghaaZ01WWords
import Derived.Test.YtcjalfgnnabghaaZ01Short
namespace Go.Proofs.Ytcjalfgnnabghaa.H
open Go.RowKit Go.Proofs.YtcjalfgnnabghaaW.PrintWords
set_option maxHeartbeats 8000000
set_option maxRecDepth 100000
set_option linter.unusedVariables false
set_option linter.unusedSimpArgs false
def laws_heldIntS.l0 : Nat → List Int → Int → Int → Option (Int)
 | 0, _, _, _ => none
 | k + 1, x0, x1, x5 => if x5 < (x0.length : Int) then (if 0 ≤ x5 then (if (rd x0 x5) = x1 then (laws_heldIntS.l0 k x0 (wrap64 (x1 + 1)) (wrap64 (x5 + 1))) else (some (-1))) else (none)) else (some x1)
def laws_heldIntS.f (k : Nat) (l0 : List Int) (a1 : Int) : Option (Int) := laws_heldIntS.l0 k l0 a1 0
theorem laws_heldIntS.calls (k : Nat) (A0 : Option Addr) (c0 : Nat) (l0 : List Int) (a1 : Int) (r : Int) (w : World) (Af : Kd.C (Kd.int .i64) w A0 l0.length l0) (Ag : l0.length ≤ c0) (h : laws_heldIntS.f k l0 a1 = some r) :
  Calls Try.prog 28 #[.slice A0 l0.length c0, .int .i64 a1] w fun e w' => e = .returned (.int .i64 r) ∧ Drawn0 w w' := by
 have Ah := Aside0.mk Af; have Ai := Aside0.mk Ag; clear Af Ag; have H : (laws_heldIntS.l0 k l0 a1 0) = some r := h; clear h; have H' := Aside0.mk H; clear H
 go_enter Try.func28, Try.ntmps28
 go_wp2
 go_loopg [1, 5] k (fun kq v1 v5 w' => ∃ (Ab : Int) (Aa : Int), v1 = .int .i64 Ab ∧ v5 = .int .i64 Aa ∧ Aside0 (laws_heldIntS.l0 kq l0 Ab Aa = some r) ∧ Aside0 (kq ≤ k) ∧ Drawn0 w w')
 case atStart => exact ⟨(a1), (0), Z25, Z25, H', ⟨Nat.le_refl _⟩, Z44⟩
 case round =>
  clear H'; (try clear c2); (try clear p2); obtain ⟨Ab, Aa, rfl, rfl, HA, HK1, ⟨m1, rfl⟩⟩ := hrel; cases gk with
  | zero => exact absurd HA.out (by simp [laws_heldIntS.l0])
  | succ k1 =>
   have H := HA.out; clear HA
   simp only [laws_heldIntS.l0] at H
   by_cases c3 : Aa < (l0.length : Int)
   ·rw [if_pos c3] at H
    have c3b0 : decide (Aa < (l0.length : Int)) = true := decide_eq_true c3; clear c3
    by_cases c4 : 0 ≤ Aa
    ·rw [if_pos c4] at H
     have c4b0 : decide (0 ≤ Aa) = true := decide_eq_true c4; clear c4
     by_cases c5 : (rd l0 Aa) = Ab
     ·rw [if_pos c5] at H
      have c5b0 : ((rd l0 Aa) == Ab) = true := beq_iff_eq.mpr c5; have c5b1 : ((rd l0 Aa) != Ab) = false := bne_eq_false_iff_eq.mpr c5; clear c5; have H' := Aside0.mk H; clear H; have Ac : 0 ≤ (Aa : Int) := of_decide_eq_true Z31; have Ad : Aa < (l0.length : Int) := of_decide_eq_true Z31; obtain ⟨ad271, e271, Ae⟩ := Kd.at_int Ah.out Aa Ac Ad; cases e271; replace Ac := eq_true Ac; replace Ad := eq_true Ad
      go_wp2
      go_roundg k1
      case measure => have := HK1.out; omega
      case rel => exact ⟨(wrap64 (Ab + 1)), (wrap64 (Aa + 1)), Z25, Z25, H', ⟨Z214⟩, Z44⟩
     ·rw [if_neg c5] at H
      have c5b0 : ((rd l0 Aa) == Ab) = false := beq_eq_false_iff_ne.mpr c5; have c5b1 : ((rd l0 Aa) != Ab) = true := bne_iff_ne.mpr c5; obtain rfl := Option.some.inj H; have Ac : 0 ≤ (Aa : Int) := of_decide_eq_true Z31; have Ad : Aa < (l0.length : Int) := of_decide_eq_true Z31; obtain ⟨ad271, e271, Ae⟩ := Kd.at_int Ah.out Aa Ac Ad; cases e271; replace Ac := eq_true Ac; replace Ad := eq_true Ad
      go_wp2
      go_ret
      exact ⟨Z25, Z44⟩
    ·rw [if_neg c4] at H
     exact absurd H (by simp)
   ·rw [if_neg c3] at H
    have c3b0 : decide (Aa < (l0.length : Int)) = false := decide_eq_false c3; clear c3; obtain rfl := Option.some.inj H
    go_wp2
    go_ret
    exact ⟨Z25, Z44⟩
end Go.Proofs.Ytcjalfgnnabghaa.H
