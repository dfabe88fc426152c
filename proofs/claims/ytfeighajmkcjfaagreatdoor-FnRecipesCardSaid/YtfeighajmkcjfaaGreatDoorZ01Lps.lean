-- by wip/pack.py of this repo
import Derived.Test.YtfeighajmkcjfaaGreatDoorZ01Base
namespace Go.Proofs.YtfeighajmkcjfaaGreatDoor.H
open Go.RowKit Go.Proofs.YtfeighajmkcjfaaGreatDoorW.PrintWords
set_option linter.unusedVariables false
def loopN {σ : Type} (f : Nat → σ → σ) : Nat → σ → σ
  | 0, s => s
  | n + 1, s => f n (loopN f n s)
theorem Ev.loop {σ ρ : Type} (g : Nat → Int → σ → Option ρ) (n : Nat) (f : Nat → σ → σ) (Inv : Nat → σ → Prop) (fin : σ → ρ)
    (hend : ∀ s, Inv n s → Ev (fun k => g k (n : Int) s) (fin s))
    (hstep : ∀ (i : Nat) s, i < n → Inv i s → Inv (i + 1) (f i s) ∧ ∀ r, Ev (fun k => g k ((i : Int) + 1) (f i s)) r → Ev (fun k => g k (i : Int) s) r)
    (s : σ) (h0 : Inv 0 s) : Ev (fun k => g k 0 s) (fin (loopN f n s)) ∧ Inv n (loopN f n s) := by
  have key : ∀ i, i ≤ n → Inv i (loopN f i s) ∧ ∀ r, Ev (fun k => g k (i : Int) (loopN f i s)) r → Ev (fun k => g k 0 s) r := by
    intro i
    induction i with
    | zero => exact fun _ => ⟨h0, fun r h => h⟩
    | succ i ih =>
      intro hi
      obtain ⟨h1, h2⟩ := ih (by omega)
      obtain ⟨h3, h4⟩ := hstep i _ (by omega) h1
      refine ⟨h3, fun r h => h2 r (h4 r ?_)⟩
      have e : ((i + 1 : Nat) : Int) = (i : Int) + 1 := by omega
      rw [e] at h
      exact h
  obtain ⟨h1, h2⟩ := key n (Nat.le_refl _)
  exact ⟨h2 _ (hend _ h1), h1⟩
theorem Ev.loopE {σ ρ : Type} (g : Nat → Int → σ → Option ρ) (n : Nat) (Inv : Nat → σ → Prop) (Post : ρ → Prop)
    (hend : ∀ s, Inv n s → ∃ r, Post r ∧ Ev (fun k => g k (n : Int) s) r)
    (hstep : ∀ (i : Nat) s, i < n → Inv i s → ∃ s', Inv (i + 1) s' ∧ ∀ r, Ev (fun k => g k ((i : Int) + 1) s') r → Ev (fun k => g k (i : Int) s) r)
    (s : σ) (h0 : Inv 0 s) : ∃ r, Post r ∧ Ev (fun k => g k 0 s) r := by
  have key : ∀ d i s, i + d = n → Inv i s → ∃ r, Post r ∧ Ev (fun k => g k (i : Int) s) r := by
    intro d
    induction d with
    | zero =>
      intro i s hi hs
      have : i = n := by omega
      subst this
      exact hend s hs
    | succ d ih =>
      intro i s hi hs
      obtain ⟨s', hs', h⟩ := hstep i s (by omega) hs
      obtain ⟨r, hp, hr⟩ := ih (i + 1) s' (by omega) hs'
      have e : ((i + 1 : Nat) : Int) = (i : Int) + 1 := by omega
      rw [e] at hr
      exact ⟨r, hp, h r hr⟩
  exact key n 0 s (by omega) h0
theorem Ev.scan (g : Nat → Int → Option Bool) (n : Nat) (good : Nat → Bool) (fin : Bool) (hend : Ev (fun k => g k (n : Int)) fin)
    (hbad : ∀ i : Nat, i < n → good i = false → Ev (fun k => g k (i : Int)) false)
    (hgood : ∀ (i : Nat) r, i < n → good i = true → Ev (fun k => g k ((i : Int) + 1)) r → Ev (fun k => g k (i : Int)) r) :
    Ev (fun k => g k 0) ((List.range n).all good && fin) := by
  have key : ∀ d i, i + d = n → Ev (fun k => g k (i : Int)) (((List.range n).drop i).all good && fin) := by
    intro d
    induction d with
    | zero =>
      intro i hi
      have : i = n := by omega
      subst this
      rw [List.drop_of_length_le (by simp)]
      exact hend
    | succ d ih =>
      intro i hi
      rw [List.drop_eq_getElem_cons (by simp; omega)]
      simp only [List.getElem_range, List.all_cons]
      cases hg : good i with
      | true =>
        rw [Bool.true_and]
        have := ih (i + 1) (by omega)
        have e : ((i + 1 : Nat) : Int) = (i : Int) + 1 := by omega
        rw [e] at this
        exact hgood i _ (by omega) hg this
      | false => exact hbad i (by omega) hg
  have := key n 0 (by omega)
  simpa using this
theorem all_range {n : Nat} {p : Nat → Bool} : (List.range n).all p = true ↔ ∀ i, i < n → p i = true := by simp [List.all_eq_true]
theorem all_getD {α : Type} (z : α) (xs : List α) (p : α → Bool) : xs.all p = true ↔ ∀ i, i < xs.length → p (xs.getD i z) = true := by
  rw [List.all_eq_true]
  constructor
  · intro h i hi
    rw [List.getD_eq_getElem?_getD, List.getElem?_eq_getElem hi]
    exact h _ (List.getElem_mem hi)
  · intro h x hx
    obtain ⟨i, hi, rfl⟩ := List.getElem_of_mem hx
    have := h i hi
    rwa [List.getD_eq_getElem?_getD, List.getElem?_eq_getElem hi] at this
end Go.Proofs.YtfeighajmkcjfaaGreatDoor.H
