-- by wip/pack.py of this repo
import Derived.Test.YtedjeeicpppplaaDoorZ00WWords
import Derived.WalkKit
import Derived.IntWalk
namespace Go.Proofs.YtedjeeicpppplaaDoor.H
open Go.RowKit Go.Proofs.YtedjeeicpppplaaDoorW.PrintWords
set_option linter.unusedVariables false
def rng (a lo hi : Int) : Bool := decide (lo ≤ a ∧ a ≤ hi)
theorem rng_iff (a lo hi : Int) : rng a lo hi = true ↔ lo ≤ a ∧ a ≤ hi := by simp [rng]
theorem wrap_id (x : Int) (h : -9223372036854775808 ≤ x) (h2 : x ≤ 9223372036854775807) : wrap64 x = x := by unfold wrap64; omega
def findI {α : Type} (p : α → Bool) : List α → Int
  | [] => -1
  | x :: r => if p x = true then 0 else (if findI p r < 0 then -1 else findI p r + 1)
theorem findI_ge {α : Type} (p : α → Bool) (xs : List α) : -1 ≤ findI p xs := by
  induction xs with
  | nil => exact Int.le_refl _
  | cons x r ih => unfold findI; split; omega; split <;> omega
theorem findI_miss {α : Type} (p : α → Bool) (z : α) (xs : List α) (h : ∀ j : Nat, j < xs.length → p (xs.getD j z) = false) : findI p xs = -1 := by
  induction xs with
  | nil => rfl
  | cons x r ih =>
    have h0 : p x = false := h 0 (by simp)
    have h1 := ih (fun j hj => by have := h (j + 1) (by simpa using hj); simpa using this)
    simp [findI, h0, h1]
theorem findI_hit {α : Type} (p : α → Bool) (z : α) (xs : List α) (k : Nat) (hk : k < xs.length) (h : ∀ j : Nat, j < k → p (xs.getD j z) = false) (hp : p (xs.getD k z) = true) : findI p xs = k := by
  induction xs generalizing k with
  | nil => cases hk
  | cons x r ih =>
    cases k with
    | zero => have h0 : p x = true := hp; simp [findI, h0]
    | succ k =>
      have h0 : p x = false := h 0 (by omega)
      have h1 := ih k (by simpa using hk) (fun j hj => by have := h (j + 1) (by omega); simpa using this) (by simpa using hp)
      simp only [findI, h0, h1]
      rw [if_neg (by simp), if_neg (by omega)]
      rfl
theorem findI_any {α : Type} (p : α → Bool) (xs : List α) : decide (0 ≤ findI p xs) = xs.any p := by
  induction xs with
  | nil => rfl
  | cons x r ih =>
    have := findI_ge p r
    simp only [findI, List.any_cons]
    by_cases hx : p x = true
    · simp [hx]
    · simp only [if_neg hx]
      simp only [Bool.not_eq_true] at hx
      rw [hx, Bool.false_or, ← ih, decide_eq_decide]
      split <;> omega
theorem any_not {α : Type} (p : α → Bool) (xs : List α) : (!xs.any fun x => !p x) = xs.all p := by
  induction xs with
  | nil => rfl
  | cons x r ih => simp only [List.any_cons, List.all_cons, ← ih]; cases p x <;> simp
def asc {α : Type} (of : α → Int) : List α → Bool
  | x :: y :: r => decide (of x < of y) && asc of (y :: r)
  | _ => true
theorem asc_true {α : Type} (of : α → Int) (z : α) (xs : List α) (h : ∀ j : Nat, j + 1 < xs.length → of (xs.getD j z) < of (xs.getD (j + 1) z)) : asc of xs = true := by
  induction xs with
  | nil => rfl
  | cons x r ih =>
    cases r with
    | nil => rfl
    | cons y r =>
      have h0 : of x < of y := h 0 (by simp)
      have h1 := ih (fun j hj => by have := h (j + 1) (by simpa using hj); simpa using this)
      simp [asc, h0, h1]
theorem asc_false {α : Type} (of : α → Int) (z : α) (xs : List α) (j : Nat) (hj : j + 1 < xs.length) (h : of (xs.getD (j + 1) z) ≤ of (xs.getD j z)) : asc of xs = false := by
  induction xs generalizing j with
  | nil => cases hj
  | cons x r ih =>
    cases r with
    | nil => simp at hj
    | cons y r =>
      cases j with
      | zero =>
        have h0 : of y ≤ of x := h
        have h1 : ¬ of x < of y := by omega
        simp [asc, h1]
      | succ j =>
        have h1 := ih j (by simpa using hj) (by simpa using h)
        simp [asc, h1]
end Go.Proofs.YtedjeeicpppplaaDoor.H
