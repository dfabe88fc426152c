-- by wip/pack.py of this repo
import Derived.Test.YtfeighajmkcjfaaGreatDoorZ01WWords
import Derived.Deep.Slices
import Derived.ProofKit
namespace Go.Proofs.YtfeighajmkcjfaaGreatDoor.Opening
open Go.RowKit Go.Proofs.YtfeighajmkcjfaaGreatDoorW.PrintWords Go.ChangeShapes Go.WideShapes Go.ChangeAt
set_option linter.unusedVariables false
def Opn (P : Program) (t : TypeId) {α : Type} (d : Kd α) (Q : α → Prop) : Prop :=
  ∀ (H : Type) (enc : TypeId × Value → H) (w : World) (fuel : Nat) (cs : List Value) (x : DataW H × List MemPlace),
    DataW.trod enc P w 0 (fun _ => true) true fuel t cs = some x → ∃ a : α, d.K w a cs ∧ Q a
theorem opn_int {P : Program} {t : TypeId} {k : IntKind} (ht : P.underlying t = some (.int k)) : Opn P t (Kd.int k) (fun n => (Lit.int k n).wf = true) := by
  intro H enc w fuel cs x h
  obtain ⟨n, rfl, _, hw⟩ := DataW.trod_int ht h
  exact ⟨n, rfl, hw⟩
theorem opn_slice {P : Program} {t e : TypeId} {α : Type} {d : Kd α} {Q : α → Prop} (ht : P.underlying t = some (.slice e)) (hsz : P.cellsOf e = d.sz) (h : Opn P e d Q) :
    Opn P t (Kd.slice e d) (fun l => l.length ≤ maxLen ∧ ∀ a ∈ l, Q a) := by
  intro H enc w fuel cs x hx
  rcases Go.Deep.open_slice ht hx with ⟨rfl, _⟩ | ⟨a, len, cap, m, n, D, Pl, rfl, _, hl, hm, hmm, _, hel⟩
  · exact ⟨[], ⟨none, 0, rfl, Nat.le_refl _, rfl, by simp, fun h => absurd h (Nat.lt_irrefl 0)⟩, Nat.zero_le _, fun a ha => by cases ha⟩
  · have hlm : len ≤ m := by rw [hmm]; simpa using hl
    have key : ∀ k, k ≤ len → ∃ l : List α, l.length = k ∧ (∀ a ∈ l, Q a) ∧ ∀ j p, l[j]? = some p → ∃ c : List Value, c.length = d.sz ∧ d.K w p c ∧ ∀ i u, c[i]? = some u → w.cell? (a.add (j * d.sz + i)) = some u := by
      intro k
      induction k with
      | zero => exact fun _ => ⟨[], rfl, (fun a ha => by cases ha), (fun j p hp => by simp at hp)⟩
      | succ k ih =>
        intro hk
        obtain ⟨l, hll, hq, hc⟩ := ih (by omega)
        obtain ⟨cs', hcs, htr⟩ := hel k (by omega)
        obtain ⟨y, hy, hqy⟩ := h H enc w n cs' _ htr
        refine ⟨l ++ [y], by simp [hll], ?_, ?_⟩
        · intro b hb
          rcases List.mem_append.1 hb with hb | hb
          · exact hq b hb
          · rw [List.mem_singleton.1 hb]; exact hqy
        · intro j p hp
          rcases Nat.lt_or_ge j l.length with hj | hj
          · rw [List.getElem?_append_left hj] at hp
            exact hc j p hp
          · rw [List.getElem?_append_right hj] at hp
            have hj0 : j - l.length = 0 := by
              rcases Nat.eq_zero_or_pos (j - l.length) with h0 | h0
              · exact h0
              · rw [List.getElem?_eq_none (by simp; omega)] at hp; cases hp
            rw [hj0] at hp
            simp only [List.getElem?_cons_zero, Option.some.injEq] at hp
            subst hp
            have hjk : j = k := by omega
            subst hjk
            obtain ⟨_, hlen, hcell⟩ := World.cells?_some hcs
            refine ⟨cs', d.K_len hy, hy, fun i u hu => ?_⟩
            have hi : i < cs'.length := by
              rcases Nat.lt_or_ge i cs'.length with h1 | h1
              · exact h1
              · rw [List.getElem?_eq_none h1] at hu; cases hu
            have := hcell i (by omega)
            rw [Addr.add_add, hsz] at this
            rw [this, hu]
    obtain ⟨l, hll, hq, hc⟩ := key len (Nat.le_refl _)
    refine ⟨l, ⟨some a, cap, by rw [hll], by omega, rfl, ?_, fun _ => ⟨a, rfl, hc⟩⟩, by omega, hq⟩
    have : maxLen = 9223372036854775807 := by decide
    omega
theorem slice_of {P : Program} {t e : TypeId} {r : Reach} {b0 : Nat} {v : Value} {α : Type} {d : Kd α} {Q : α → Prop} {H : Type} {enc : TypeId × Value → H} {w : World} {dd : DataW H} {p : List MemPlace} (ht : P.underlying t = some (.slice e))
    (h : Opn P t d Q) (hv : Value.okWide P w r b0 t v) (hx : DataW.Trod enc P w 0 (fun _ => true) true t v dd p) : ∃ a : α, d.K w a [v] ∧ Q a := by
  obtain ⟨A, n, c, rfl⟩ := okWide_slice ht hv
  obtain ⟨fuel, hf⟩ := hx
  exact h H enc w fuel _ _ hf
end Go.Proofs.YtfeighajmkcjfaaGreatDoor.Opening
