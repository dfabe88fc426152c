/- Small facts that the texts by hand lean on: the first place of a predicate in a list; a block that is read as a row. No condition. -/
import Derived.Test.YtlfjalobklnkcaaDoorWWords
import Derived.WalkKit
import Derived.IntWalk
namespace Go.Proofs.YtlfjalobklnkcaaDoor.H
open Go.RowKit Go.Proofs.YtlfjalobklnkcaaDoorW.PrintWords
set_option linter.unusedVariables false
/-! ### a range -/
def rng (a lo hi : Int) : Bool := decide (lo ≤ a ∧ a ≤ hi)
theorem rng_iff (a lo hi : Int) : rng a lo hi = true ↔ lo ≤ a ∧ a ≤ hi := by simp [rng]
theorem wrap_id (x : Int) (h : -9223372036854775808 ≤ x) (h2 : x ≤ 9223372036854775807) : wrap64 x = x := by unfold wrap64; omega
/-! ### a predicate's first place -/
def findI {α : Type} (p : α → Bool) : List α → Int
  | [] => -1
  | x :: r => if p x = true then 0 else (if findI p r < 0 then -1 else findI p r + 1)
theorem findI_ge {α : Type} (p : α → Bool) (xs : List α) : -1 ≤ findI p xs := by
  induction xs with
  | nil => exact Int.le_refl _
  | cons x r ih => unfold findI; split; omega; split <;> omega
theorem findI_miss {α : Type} (p : α → Bool) (z : α) (xs : List α) (h : ∀ j : Nat, j < xs.length → p (xs.getD j z) = false) : findI p xs = -1 := by
  induction xs with
  | nil => rfl
  | cons x r ih =>
    have h0 : p x = false := h 0 (by simp)
    have h1 := ih (fun j hj => by have := h (j + 1) (by simpa using hj); simpa using this)
    simp [findI, h0, h1]
theorem findI_hit {α : Type} (p : α → Bool) (z : α) (xs : List α) (k : Nat) (hk : k < xs.length) (h : ∀ j : Nat, j < k → p (xs.getD j z) = false) (hp : p (xs.getD k z) = true) : findI p xs = k := by
  induction xs generalizing k with
  | nil => cases hk
  | cons x r ih =>
    cases k with
    | zero => have h0 : p x = true := hp; simp [findI, h0]
    | succ k =>
      have h0 : p x = false := h 0 (by omega)
      have h1 := ih k (by simpa using hk) (fun j hj => by have := h (j + 1) (by omega); simpa using this) (by simpa using hp)
      simp only [findI, h0, h1]
      rw [if_neg (by simp), if_neg (by omega)]
      rfl
theorem findI_any {α : Type} (p : α → Bool) (xs : List α) : decide (0 ≤ findI p xs) = xs.any p := by
  induction xs with
  | nil => rfl
  | cons x r ih =>
    have := findI_ge p r
    simp only [findI, List.any_cons]
    by_cases hx : p x = true
    · simp [hx]
    · simp only [if_neg hx]
      simp only [Bool.not_eq_true] at hx
      rw [hx, Bool.false_or, ← ih, decide_eq_decide]
      split <;> omega
theorem any_not {α : Type} (p : α → Bool) (xs : List α) : (!xs.any fun x => !p x) = xs.all p := by
  induction xs with
  | nil => rfl
  | cons x r ih => simp only [List.any_cons, List.all_cons, ← ih]; cases p x <;> simp
/-- The elements of a block of its own. -/
theorem C_of_block {α : Type} {enc : α → Value} {h1 : ∀ x, (enc x).oneCell' = true} {w : World} {b : Nat} {cs : Array Value} {t : TypeId} {fr : Nat × Nat} {xs : List α} (hl : xs.length ≤ 9223372036854775807) (hb : w.heap[b]? = some (.cells cs t fr))
    (hc : ∀ (i : Nat) (u : Value), (xs.map enc)[i]? = some u → cs[i]? = some u) : (Kd.scalar enc h1).C w (some ⟨b, 0, none⟩) xs.length xs := by
  refine ⟨rfl, hl, fun _ => ⟨_, rfl, fun j x hx => ⟨[enc x], rfl, rfl, fun i u hu => ?_⟩⟩⟩
  have hi : i = 0 := by
    rcases Nat.eq_zero_or_pos i with h | h
    · exact h
    · rw [List.getElem?_eq_none (by simp; omega)] at hu; cases hu
  subst hi
  have hu' : enc x = u := by simpa using hu
  subst hu'
  have := hc j (enc x) (by rw [List.getElem?_map, hx]; rfl)
  have e : (⟨b, 0, none⟩ : Addr).add (j * (Kd.scalar enc h1).sz + 0) = ⟨b, j, none⟩ := by
    show (⟨b, 0, none⟩ : Addr).add (j * 1 + 0) = _
    cases j <;> simp [Addr.add]
  rw [e]
  simpa [World.cell?, hb] using this
/-! ### strictly ascending by a number -/
def asc {α : Type} (of : α → Int) : List α → Bool
  | x :: y :: r => decide (of x < of y) && asc of (y :: r)
  | _ => true
theorem asc_true {α : Type} (of : α → Int) (z : α) (xs : List α) (h : ∀ j : Nat, j + 1 < xs.length → of (xs.getD j z) < of (xs.getD (j + 1) z)) : asc of xs = true := by
  induction xs with
  | nil => rfl
  | cons x r ih =>
    cases r with
    | nil => rfl
    | cons y r =>
      have h0 : of x < of y := h 0 (by simp)
      have h1 := ih (fun j hj => by have := h (j + 1) (by simpa using hj); simpa using this)
      simp [asc, h0, h1]
theorem asc_false {α : Type} (of : α → Int) (z : α) (xs : List α) (j : Nat) (hj : j + 1 < xs.length) (h : of (xs.getD (j + 1) z) ≤ of (xs.getD j z)) : asc of xs = false := by
  induction xs generalizing j with
  | nil => cases hj
  | cons x r ih =>
    cases r with
    | nil => simp at hj
    | cons y r =>
      cases j with
      | zero =>
        have h0 : of y ≤ of x := h
        have h1 : ¬ of x < of y := by omega
        simp [asc, h1]
      | succ j =>
        have h1 := ih j (by simpa using hj) (by simpa using h)
        simp [asc, h1]
end Go.Proofs.YtlfjalobklnkcaaDoor.H
