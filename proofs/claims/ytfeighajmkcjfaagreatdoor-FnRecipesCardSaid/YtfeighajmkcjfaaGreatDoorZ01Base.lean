-- by wip/pack.py of this repo
import Derived.Test.YtfeighajmkcjfaaGreatDoorZ01WWords
import Derived.WalkKit
import Derived.IntWalk
namespace Go.Proofs.YtfeighajmkcjfaaGreatDoor.H
open Go.RowKit Go.Proofs.YtfeighajmkcjfaaGreatDoorW.PrintWords
set_option linter.unusedVariables false
def rng (a lo hi : Int) : Bool := decide (lo ≤ a ∧ a ≤ hi)
theorem rng_iff (a lo hi : Int) : rng a lo hi = true ↔ lo ≤ a ∧ a ≤ hi := by simp [rng]
theorem wrap_id (x : Int) (h : -9223372036854775808 ≤ x) (h2 : x ≤ 9223372036854775807) : wrap64 x = x := by unfold wrap64; omega
def findI {α : Type} (p : α → Bool) : List α → Int
  | [] => -1
  | x :: r => if p x = true then 0 else (if findI p r < 0 then -1 else findI p r + 1)
theorem findI_ge {α : Type} (p : α → Bool) (xs : List α) : -1 ≤ findI p xs := by
  induction xs with
  | nil => exact Int.le_refl _
  | cons x r ih => unfold findI; split; omega; split <;> omega
theorem findI_miss {α : Type} (p : α → Bool) (z : α) (xs : List α) (h : ∀ j : Nat, j < xs.length → p (xs.getD j z) = false) : findI p xs = -1 := by
  induction xs with
  | nil => rfl
  | cons x r ih =>
    have h0 : p x = false := h 0 (by simp)
    have h1 := ih (fun j hj => by have := h (j + 1) (by simpa using hj); simpa using this)
    simp [findI, h0, h1]
theorem findI_hit {α : Type} (p : α → Bool) (z : α) (xs : List α) (k : Nat) (hk : k < xs.length) (h : ∀ j : Nat, j < k → p (xs.getD j z) = false) (hp : p (xs.getD k z) = true) : findI p xs = k := by
  induction xs generalizing k with
  | nil => cases hk
  | cons x r ih =>
    cases k with
    | zero => have h0 : p x = true := hp; simp [findI, h0]
    | succ k =>
      have h0 : p x = false := h 0 (by omega)
      have h1 := ih k (by simpa using hk) (fun j hj => by have := h (j + 1) (by omega); simpa using this) (by simpa using hp)
      simp only [findI, h0, h1]
      rw [if_neg (by simp), if_neg (by omega)]
      rfl
theorem findI_any {α : Type} (p : α → Bool) (xs : List α) : decide (0 ≤ findI p xs) = xs.any p := by
  induction xs with
  | nil => rfl
  | cons x r ih =>
    have := findI_ge p r
    simp only [findI, List.any_cons]
    by_cases hx : p x = true
    · simp [hx]
    · simp only [if_neg hx]
      simp only [Bool.not_eq_true] at hx
      rw [hx, Bool.false_or, ← ih, decide_eq_decide]
      split <;> omega
theorem any_not {α : Type} (p : α → Bool) (xs : List α) : (!xs.any fun x => !p x) = xs.all p := by
  induction xs with
  | nil => rfl
  | cons x r ih => simp only [List.any_cons, List.all_cons, ← ih]; cases p x <;> simp
theorem bsl_irr : ∀ x : List UInt8, Op.bytesLess x x = false
  | [] => rfl
  | a :: x => by
    rw [Op.bytesLess, bsl_irr x, Bool.and_false, Bool.or_false]
    exact decide_eq_false (by rw [UInt8.lt_iff_toNat_lt]; omega)
theorem bsl_trans : ∀ x y z : List UInt8, Op.bytesLess x y = true → Op.bytesLess y z = true → Op.bytesLess x z = true
  | _, y, [], _, h2 => by cases y <;> cases h2
  | [], _, _ :: _, _, _ => rfl
  | a :: x, [], c :: z, h1, _ => by cases h1
  | a :: x, b :: y, c :: z, h1, h2 => by
    simp only [Op.bytesLess, Bool.or_eq_true, Bool.and_eq_true, decide_eq_true_eq, beq_iff_eq, UInt8.lt_iff_toNat_lt] at h1 h2 ⊢
    rcases h1 with h1 | ⟨rfl, h1⟩
    · rcases h2 with h2 | ⟨rfl, h2⟩
      · exact .inl (by omega)
      · exact .inl h1
    · rcases h2 with h2 | ⟨rfl, h2⟩
      · exact .inl h2
      · exact .inr ⟨rfl, bsl_trans x y z h1 h2⟩
theorem bsl_total : ∀ x y : List UInt8, Op.bytesLess x y = false → Op.bytesLess y x = false → x = y
  | [], [], _, _ => rfl
  | [], _ :: _, h, _ => by cases h
  | _ :: _, [], _, h => by cases h
  | a :: x, b :: y, h1, h2 => by
    simp only [Op.bytesLess, Bool.or_eq_false_iff, Bool.and_eq_false_iff, decide_eq_false_iff_not, beq_eq_false_iff_ne, UInt8.lt_iff_toNat_lt] at h1 h2
    have e : a = b := UInt8.toNat_inj.1 (by omega)
    subst e
    rw [bsl_total x y (h1.2.resolve_left (fun h => h rfl)) (h2.2.resolve_left (fun h => h rfl))]
theorem bsl_ntrans (x y z : List UInt8) (h1 : Op.bytesLess x y = false) (h2 : Op.bytesLess y z = false) : Op.bytesLess x z = false := by
  cases h : Op.bytesLess x z with
  | false => rfl
  | true =>
    exfalso
    cases h3 : Op.bytesLess y x with
    | true => rw [bsl_trans y x z h3 h] at h2; cases h2
    | false => rw [bsl_total x y h1 h3, h2] at h; cases h
theorem gtr_text (t : TypeId) (a b : ByteArray) : binOp .gtr t (.string a) (.string b) = pure (.bool (Op.bytesLess b.toList a.toList)) := by
  have e : (!(Op.bytesLess a.toList b.toList || a.toList == b.toList)) = Op.bytesLess b.toList a.toList := by
    cases h1 : Op.bytesLess a.toList b.toList with
    | true =>
      cases h2 : Op.bytesLess b.toList a.toList with
      | false => rfl
      | true => have := bsl_trans _ _ _ h1 h2; rw [bsl_irr] at this; cases this
    | false =>
      cases h2 : Op.bytesLess b.toList a.toList with
      | true =>
        have : (a.toList == b.toList) = false := beq_eq_false_iff_ne.2 (fun e => by rw [e, bsl_irr] at h2; cases h2)
        rw [this]; rfl
      | false =>
        have : (a.toList == b.toList) = true := beq_iff_eq.2 (bsl_total _ _ h1 h2)
        rw [this]; rfl
  rw [← e]
  simp [binOp, Op.stringOp]
end Go.Proofs.YtfeighajmkcjfaaGreatDoor.H
