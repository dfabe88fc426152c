-- by wip/pack.py of this repo
import Derived.Test.YthalifhbjioaeaaDoorZ10Hx0
import Derived.Test.YthalifhbjioaeaaDoorZ10WMore
import Derived.Test.YthalifhbjioaeaaDoorZ10WWords
import Derived.Test.YthalifhbjioaeaaDoorZ10Short
namespace Go.Proofs.YthalifhbjioaeaaDoor.H
open Go.RowKit Go.Proofs.YthalifhbjioaeaaDoorW.PrintWords Go.Proofs.YthalifhbjioaeaaDoorW.PrintLast Go.Proofs.YthalifhbjioaeaaDoorW.PrintMore
attribute [local go_sem] max2_int min2_int max_two min_two max_three min_three max_four min_four
set_option maxHeartbeats 8000000
set_option maxRecDepth 100000
set_option linter.unusedVariables false
set_option linter.unusedSimpArgs false
def slices_Clone_wv.f (l0 : List (S26)) : Option (List (S26)) := if l0.length < 2932031007402 then some l0 else none
theorem slices_Clone_wv.calls (A0 : Option Addr) (c0 : Nat) (l0 : List (S26)) (r : List (S26)) (w : World) (Ab : Kd.C k26 w A0 l0.length l0) (Ae : l0.length ≤ c0) (h : slices_Clone_wv.f l0 = some r) :
  Calls Tryd.prog 78 #[.slice A0 l0.length c0] w fun e w' => ∃ v0_ : Value, e = .returned (v0_) ∧ Kd.R k26 26 w' w.heap.size (fun _ => True) v0_ r ∧ Below w.heap.size w w' := by
 unfold slices_Clone_wv.f at h
 by_cases hq : l0.length < 2932031007402
 case neg => rw [if_neg hq] at h; cases h
 rw [if_pos hq] at h; obtain rfl := Option.some.inj h; have HQ := Aside0.mk hq; clear h hq; cases A0 with
 | none =>
  have hn : l0 = [] := by
   cases l0 with
   | nil => rfl
   | cons x t => exact absurd (Ab.2.2 (by simp)) (by rintro ⟨ad, e, _⟩; cases e)
  subst hn
  have Ah : ∀ (w : World) (a : Option Addr) (n c n' c' : Nat), (binOp .eql 32 (.slice a n c) (.slice none n' c')).run Tryd.prog w = .ok (.bool a.isNone) w := fun w a n c n' c' => Lib.run_eql_slice_nil w _ _ a n c n' c' Tryd.underlying32
  clear Ab Ae
  go_enter Tryd.func78, Tryd.ntmps78
  go_wp2
  go_ret
  exact ⟨_, rfl, Kd.R_nil _ _ _ _ _, Below.refl _ _⟩
 | some ad =>
  have Ah : ∀ (w : World) (a : Option Addr) (n c n' c' : Nat), (binOp .eql 32 (.slice a n c) (.slice none n' c')).run Tryd.prog w = .ok (.bool a.isNone) w := fun w a n c n' c' => Lib.run_eql_slice_nil w _ _ a n c n' c' Tryd.underlying32
  have Ai := Aside0.mk Ab; clear Ab Ae; have HB := aM (Below.refl w.heap.size w); obtain ⟨y0, Ac⟩ : ∃ y_ : List (S26), y_ = [] := ⟨_, rfl⟩; have LMc := aM (show y0.length + l0.length < 2932031007402 by rw [Ac]; simpa using HQ.out); obtain ⟨y1, Ad⟩ : ∃ y_ : List (S26), y_ = (y0 ++ l0) := ⟨_, rfl⟩
  have e1 : y1 = l0 := by rw [Ad, Ac]; rfl
  have Af := Aside0.mk Ac; have Aj := Aside0.mk Ad; have E1 := Aside0.mk e1; clear Ac Ad e1
  go_enter Tryd.func78, Tryd.ntmps78
  go_wp2_with (first | ((with_reducible refine gate_dst (N := 5) rfl ?_); refine Kd.R_lit k26 _ 26 ?hg (N := 5) ?hd (xs := ([] : List (S26))) (inner := []) (ok := fun _ => True) (okp := fun _ => True) ?hr ?hp (fun _ hk => hk) trivial (Below.refl _ _) (Nat.le_refl _) (by simp) ?_; (case hd => rfl); (case hg => rfl); (case hr => first | (go_simp; done) | (go_simp; rfl)); (case hp => exact (Reps.none _ _)); intro v5 w3 Aa hb hg_ hnew_; clear hg_ hnew_; (first | rw [← Af.out] at Aa | (simp only [Int.reduceToNat] at Aa; rw [← Af.out] at Aa)); have Ag := aM (Kd.R_lower Aa (below_size Z0)); replace HB := hbS Z0 hb; clear hb Aa) | ((with_reducible refine gate_builtin (b := .append) (xs := #[.tmp 5, .tmp 6]) rfl ?_); at_builtin; refine Kd.R_append_rows k26 (w0 := w) w.heap.size rfl (.tmp 5) (.tmp 6) 32 26 (.agg #[(.int .i64 0), (.string ⟨#[]⟩), (.int .i64 0), (.int .i64 0), (.int .i64 0)]) 48 rfl Tryd.underlying32 info26 rfl (by decide) (by omega) v5 y0 l0 _ _ _ (fun _ => True) (fun _ => False) rfl rfl ?aO ?aR (fun _ _ h => h) (fun _ h => h.elim) ?aF ?aB ?aS ?aL ?_; (case aR => repeat (first | exact (Kd.C_below Ai.out HB.out) | (with_reducible refine Kd.C_alloc ?_ _) | (with_reducible refine Kd.C_drewN ?_ _) | (with_reducible refine Kd.C_drew ?_))); (case aB => exact Z0); (case aF => exact (fun _ _ => trivial)); (case aO => exact Z12); (case aS => exact (below_size Z0)); (case aL => have := LMc.out; omega); intro v7 w5 ho hb hg hat; rw [← Aj.out] at ho; replace HB := aM (hb); have Ak := aM (ho); clear Ag; clear ho hb hg hat))
  go_ret
  exact ⟨_, Z75, by rw [← E1.out]; (with_reducible repeat (first | apply Kd.R_alloc | apply Kd.R_drewN | apply Kd.R_drew)); exact Ak.out, Z0⟩
end Go.Proofs.YthalifhbjioaeaaDoor.H
