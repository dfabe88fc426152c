/- How the arguments of a law are read: out of the row's own reading of a value of a type, the value's cells as the kinds of the printed texts tell them, and what holds of every number in it. -/
import Derived.Test.YtlfjalobklnkcaaDoorWWords
import Derived.Deep.Slices
import Derived.ProofKit
namespace Go.Proofs.YtlfjalobklnkcaaDoor.Opening
open Go.RowKit Go.Proofs.YtlfjalobklnkcaaDoorW.PrintWords Go.ChangeShapes Go.WideShapes Go.ChangeAt
set_option linter.unusedVariables false
/-- A value of type t reads as one of kind d, of which Q holds. -/
def Opn (P : Program) (t : TypeId) {α : Type} (d : Kd α) (Q : α → Prop) : Prop :=
  ∀ (H : Type) (enc : TypeId × Value → H) (w : World) (fuel : Nat) (cs : List Value) (x : DataW H × List MemPlace),
    DataW.trod enc P w 0 (fun _ => true) true fuel t cs = some x → ∃ a : α, d.K w a cs ∧ Q a
theorem opn_int {P : Program} {t : TypeId} {k : IntKind} (ht : P.underlying t = some (.int k)) : Opn P t (Kd.int k) (fun n => (Lit.int k n).wf = true) := by
  intro H enc w fuel cs x h
  obtain ⟨n, rfl, _, hw⟩ := DataW.trod_int ht h
  exact ⟨n, rfl, hw⟩
theorem opn_bool {P : Program} {t : TypeId} (ht : P.underlying t = some .bool) : Opn P t Kd.bool (fun _ => True) := by
  intro H enc w fuel cs x h
  obtain ⟨b, rfl, _⟩ := DataW.trod_bool ht h
  exact ⟨b, rfl, trivial⟩
theorem opn_string {P : Program} {t : TypeId} (ht : P.underlying t = some .string) : Opn P t Kd.string (fun s => s.size ≤ maxLen) := by
  intro H enc w fuel cs x h
  obtain ⟨s, rfl, _, hs⟩ := DataW.trod_string ht h
  exact ⟨s, rfl, hs⟩
theorem opn_slice {P : Program} {t e : TypeId} {α : Type} {d : Kd α} {Q : α → Prop} (ht : P.underlying t = some (.slice e)) (hsz : P.cellsOf e = d.sz) (h : Opn P e d Q) :
    Opn P t (Kd.slice e d) (fun l => l.length ≤ maxLen ∧ ∀ a ∈ l, Q a) := by
  intro H enc w fuel cs x hx
  rcases Go.Deep.open_slice ht hx with ⟨rfl, _⟩ | ⟨a, len, cap, m, n, D, Pl, rfl, _, hl, hm, hmm, _, hel⟩
  · exact ⟨[], ⟨none, 0, rfl, Nat.le_refl _, rfl, by simp, fun h => absurd h (Nat.lt_irrefl 0)⟩, Nat.zero_le _, fun a ha => by cases ha⟩
  · have hlm : len ≤ m := by rw [hmm]; simpa using hl
    have key : ∀ k, k ≤ len → ∃ l : List α, l.length = k ∧ (∀ a ∈ l, Q a) ∧ ∀ j p, l[j]? = some p → ∃ c : List Value, c.length = d.sz ∧ d.K w p c ∧ ∀ i u, c[i]? = some u → w.cell? (a.add (j * d.sz + i)) = some u := by
      intro k
      induction k with
      | zero => exact fun _ => ⟨[], rfl, (fun a ha => by cases ha), (fun j p hp => by simp at hp)⟩
      | succ k ih =>
        intro hk
        obtain ⟨l, hll, hq, hc⟩ := ih (by omega)
        obtain ⟨cs', hcs, htr⟩ := hel k (by omega)
        obtain ⟨y, hy, hqy⟩ := h H enc w n cs' _ htr
        refine ⟨l ++ [y], by simp [hll], ?_, ?_⟩
        · intro b hb
          rcases List.mem_append.1 hb with hb | hb
          · exact hq b hb
          · rw [List.mem_singleton.1 hb]; exact hqy
        · intro j p hp
          rcases Nat.lt_or_ge j l.length with hj | hj
          · rw [List.getElem?_append_left hj] at hp
            exact hc j p hp
          · rw [List.getElem?_append_right hj] at hp
            have hj0 : j - l.length = 0 := by
              rcases Nat.eq_zero_or_pos (j - l.length) with h0 | h0
              · exact h0
              · rw [List.getElem?_eq_none (by simp; omega)] at hp; cases hp
            rw [hj0] at hp
            simp only [List.getElem?_cons_zero, Option.some.injEq] at hp
            subst hp
            have hjk : j = k := by omega
            subst hjk
            obtain ⟨_, hlen, hcell⟩ := World.cells?_some hcs
            refine ⟨cs', d.K_len hy, hy, fun i u hu => ?_⟩
            have hi : i < cs'.length := by
              rcases Nat.lt_or_ge i cs'.length with h1 | h1
              · exact h1
              · rw [List.getElem?_eq_none h1] at hu; cases hu
            have := hcell i (by omega)
            rw [Addr.add_add, hsz] at this
            rw [this, hu]
    obtain ⟨l, hll, hq, hc⟩ := key len (Nat.le_refl _)
    refine ⟨l, ⟨some a, cap, by rw [hll], by omega, rfl, ?_, fun _ => ⟨a, rfl, hc⟩⟩, by omega, hq⟩
    have : maxLen = 9223372036854775807 := by decide
    omega
/-- Fields in line, from cell off on. -/
def OpnF (P : Program) (off : Nat) (fs : List Field) {α : Type} (d : Kd α) (Q : α → Prop) : Prop :=
  ∀ (H : Type) (enc : TypeId × Value → H) (w : World) (fuel : Nat) (cs : List Value), cs.length = off + d.sz →
    (∀ f ∈ fs, ∃ y, DataW.trod enc P w 0 (fun _ => true) true fuel f.type ((cs.drop f.offset).take (P.cellsOf f.type)) = some y) → ∃ a : α, d.K w a (cs.drop off) ∧ Q a
theorem opnF_one {P : Program} {off : Nat} {f : Field} {α : Type} {d : Kd α} {Q : α → Prop} (ho : f.offset = off) (hs : P.cellsOf f.type = d.sz) (h : Opn P f.type d Q) : OpnF P off [f] d Q := by
  intro H enc w fuel cs hl hf
  obtain ⟨y, hy⟩ := hf f (List.mem_cons_self ..)
  obtain ⟨a, ha, hq⟩ := h H enc w fuel _ y hy
  rw [ho, hs, List.take_of_length_le (by simp; omega)] at ha
  exact ⟨a, ha, hq⟩
theorem opnF_cons {P : Program} {off : Nat} {f : Field} {fs : List Field} {α β : Type} {d : Kd α} {ds : Kd β} {Q : α → Prop} {Qs : β → Prop} (ho : f.offset = off) (hs : P.cellsOf f.type = d.sz) (h : Opn P f.type d Q)
    (hr : OpnF P (off + d.sz) fs ds Qs) : OpnF P off (f :: fs) (Kd.pair d ds) (fun x => Q x.1 ∧ Qs x.2) := by
  intro H enc w fuel cs hl hf
  have hl' : cs.length = off + (d.sz + ds.sz) := hl
  obtain ⟨y, hy⟩ := hf f (List.mem_cons_self ..)
  obtain ⟨a, ha, hq⟩ := h H enc w fuel _ y hy
  obtain ⟨b, hb, hqs⟩ := hr H enc w fuel cs (by omega) (fun g hg => hf g (List.mem_cons_of_mem _ hg))
  rw [ho, hs] at ha
  refine ⟨(a, b), ⟨_, _, ?_, ha, hb⟩, hq, hqs⟩
  rw [← List.drop_drop]
  exact (List.take_append_drop _ _).symm
theorem opn_struct {P : Program} {t : TypeId} {fs : Array Field} {α : Type} {d : Kd α} {Q : α → Prop} (ht : P.underlying t = some (.struct fs)) (hs : P.cellsOf t = d.sz) (h : OpnF P 0 fs.toList d Q) : Opn P t d Q := by
  intro H enc w fuel cs x hx
  obtain ⟨xs, n, _, _, hl, hlen, hf⟩ := DataW.trod_struct ht hx
  obtain ⟨a, ha, hq⟩ := h H enc w n cs (by omega) (fun f hm => by
    obtain ⟨i, hi, he⟩ := List.getElem_of_mem hm
    have hi' : i < fs.size := by simpa using hi
    have := hf i f (by rw [Array.getElem?_eq_getElem hi']; simpa using he)
    rw [List.getElem?_eq_getElem (by omega)] at this
    exact ⟨_, this⟩)
  exact ⟨a, by simpa using ha, hq⟩
theorem opn_iso {P : Program} {t : TypeId} {α β : Type} {d : Kd α} {Q : α → Prop} {f : β → α} (g : α → β) (hg : ∀ a, f (g a) = a) (h : Opn P t d Q) : Opn P t (Kd.iso d f) (fun b => Q (f b)) := by
  intro H enc w fuel cs x hx
  obtain ⟨a, ha, hq⟩ := h H enc w fuel cs x hx
  exact ⟨g a, by show d.K w (f (g a)) cs; rw [hg]; exact ha, by show Q (f (g a)); rw [hg]; exact hq⟩
/-- A struct handed over by value. -/
theorem agg_of {P : Program} {t : TypeId} {fs : Array Field} {r : Reach} {b0 : Nat} {v : Value} {α : Type} {d : Kd α} {Q : α → Prop} {H : Type} {enc : TypeId × Value → H} {w : World} {dd : DataW H} {p : List MemPlace} (ht : P.underlying t = some (.struct fs))
    (h : Opn P t d Q) (hv : Value.okWide P w r b0 t v) (hx : DataW.Trod enc P w 0 (fun _ => true) true t v dd p) : ∃ (a : α) (cs : List Value), v = .agg cs.toArray ∧ d.K w a cs ∧ Q a := by
  obtain ⟨cs, rfl, _⟩ := okWide_struct ht hv
  obtain ⟨fuel, hf⟩ := hx
  obtain ⟨a, ha, hq⟩ := h H enc w fuel _ _ hf
  exact ⟨a, cs.toList, rfl, ha, hq⟩
/-- A value of one cell handed over. -/
theorem slice_of {P : Program} {t e : TypeId} {r : Reach} {b0 : Nat} {v : Value} {α : Type} {d : Kd α} {Q : α → Prop} {H : Type} {enc : TypeId × Value → H} {w : World} {dd : DataW H} {p : List MemPlace} (ht : P.underlying t = some (.slice e))
    (h : Opn P t d Q) (hv : Value.okWide P w r b0 t v) (hx : DataW.Trod enc P w 0 (fun _ => true) true t v dd p) : ∃ a : α, d.K w a [v] ∧ Q a := by
  obtain ⟨A, n, c, rfl⟩ := okWide_slice ht hv
  obtain ⟨fuel, hf⟩ := hx
  exact h H enc w fuel _ _ hf
end Go.Proofs.YtlfjalobklnkcaaDoor.Opening
