-- by wip/pack.py of this repo
import Derived.Test.YtaadbpibmlnncaaZ08Hx0
import Derived.Test.YtaadbpibmlnncaaZ08Hx3
import Derived.Test.YtaadbpibmlnncaaZ08Hx5
import Derived.Test.YtaadbpibmlnncaaZ08WLast
import Derived.Test.YtaadbpibmlnncaaZ08WMore
import Derived.Test.YtaadbpibmlnncaaZ08WTab
import Derived.Test.YtaadbpibmlnncaaZ08WWords
import Derived.Test.YtaadbpibmlnncaaZ08Short
namespace Go.Proofs.Ytaadbpibmlnncaa.H
open Go.RowKit Go.Proofs.YtaadbpibmlnncaaW.PrintWords Go.Proofs.YtaadbpibmlnncaaW.PrintLast Go.Proofs.YtaadbpibmlnncaaW.PrintMore
attribute [local go_sem] max2_int min2_int max_two min_two max_three min_three max_four min_four
set_option maxHeartbeats 8000000
set_option maxRecDepth 100000
set_option linter.unusedVariables false
set_option linter.unusedSimpArgs false
def impl_areLots_1.f (a0 : Int) : Option (Bool) := (impl_in.f a0 1 100).bind fun t311 => (some t311)
theorem impl_areLots_1.calls (a0 : Int) (r : Bool) (w : World) (h : impl_areLots_1.f a0 = some r) :
  Calls Try.prog 81 #[.int .i64 a0] w fun e w' => e = .returned (.bool r) ∧ Drawn0 w w' := by
 have H : ((impl_in.f a0 1 100).bind fun Aa => (some Aa)) = some r := h; clear h; replace H := Option.bind_eq_some_iff.mp H; obtain ⟨Aa, Ab, H⟩ := H; replace H : (some Aa) = some r := H; have A2 := Aside0.mk Ab; clear Ab; obtain rfl := Option.some.inj H
 go_enter Try.func81, Try.ntmps81
 go_wp2_with (first | ((with_reducible refine gate_callee (f := 59) rfl ?_); refine glE (some 4) Try.func59 #[.int .i64 a0, .int .i64 1, .int .i64 100] ?_; (with_reducible refine (impl_in.calls a0 1 100 Aa _ A2.out).mono ?_); rintro e w' ⟨rfl, ⟨nd, rfl⟩⟩; refine ⟨_, rfl, ?_⟩))
 go_ret
 exact ⟨Z14, Z44⟩
theorem impl_areLots_1.tot : ∀ x : Int, impl_areLots_1.f x = some ((fun x : Int => rng x 1 100) x) := fun x => by unfold impl_areLots_1.f; rw [impl_in.eq]; rfl
def areAll_impl_areLots_1.f (l0 : List Int) : Option Bool := some (l0.all (fun x : Int => rng x 1 100))
theorem areAll_impl_areLots_1.calls (A0 : Option Addr) (c0 : Nat) (l0 : List Int) (r : Bool) (w : World) (Aa : Kd.C (Kd.int .i64) w A0 l0.length l0) (Ac : l0.length ≤ c0) (h : areAll_impl_areLots_1.f l0 = some r) :
  Calls Try.prog 78 #[.slice A0 l0.length c0, .func (.func 81) #[] #[]] w fun e w' => e = .returned (.bool r) ∧ Below w.heap.size w w' := by
 have Ab := Option.some.inj h; subst Ab
 exact areAll_int (fun x : Int => rng x 1 100) 81 #[] A0 c0 l0 w (enters_of Try.func81 Z61 rfl) Aa (fun W x _ => (impl_areLots_1.calls x _ W (impl_areLots_1.tot x)).mono fun e w' ⟨he, hd⟩ => ⟨he, by first | exact hd | exact hd.below⟩)
def impl_areLots.f (l0 : List Int) : Option (Bool) := (impl_in.f (l0.length : Int) 1 6).bind fun t312 => (if t312 = true then ((areAll_impl_areLots_1.f l0).bind fun t313 => (some t313)) else (some false))
theorem impl_areLots.calls (A0 : Option Addr) (c0 : Nat) (l0 : List Int) (r : Bool) (w : World) (Ac : Kd.C (Kd.int .i64) w A0 l0.length l0) (Ad : l0.length ≤ c0) (h : impl_areLots.f l0 = some r) :
  Calls Try.prog 57 #[.slice A0 l0.length c0] w fun e w' => e = .returned (.bool r) ∧ Below w.heap.size w w' := by
 have Ag := Aside0.mk Ac; have Ah := Aside0.mk Ad; clear Ac Ad; have HB := aM (Below.refl w.heap.size w); have H : ((impl_in.f (l0.length : Int) 1 6).bind fun Ab => (if Ab = true then ((areAll_impl_areLots_1.f l0).bind fun Aa => (some Aa)) else (some false))) = some r := h; clear h; replace H := Option.bind_eq_some_iff.mp H; obtain ⟨Ab, Ae, H⟩ := H; replace H : (if Ab = true then ((areAll_impl_areLots_1.f l0).bind fun Aa => (some Aa)) else (some false)) = some r := H; have A2 := Aside0.mk Ae; clear Ae
 by_cases c3 : Ab = true
 ·subst c3
  have H1 : ((areAll_impl_areLots_1.f l0).bind fun Aa => (some Aa)) = some r := by rw [if_pos rfl] at H; exact H
  clear H; have H := H1; clear H1; replace H := Option.bind_eq_some_iff.mp H; obtain ⟨Aa, Af, H⟩ := H; replace H : (some Aa) = some r := H; have A4 := Aside0.mk Af; clear Af; obtain rfl := Option.some.inj H
  go_enter Try.func57, Try.ntmps57
  go_wp2_with (first | ((with_reducible refine gate_callee (f := 59) rfl ?_); refine glE (some 5) Try.func59 #[.int .i64 (l0.length : Int), .int .i64 1, .int .i64 6] ?_; (with_reducible refine (impl_in.calls (l0.length : Int) 1 6 true _ A2.out).mono ?_); rintro e w' ⟨rfl, ⟨nd, rfl⟩⟩; refine ⟨_, rfl, ?_⟩) | (go_at_call 78; (with_reducible refine (areAll_impl_areLots_1.calls _ _ l0 Aa _ ?side1 ?side2 A4.out).mono ?_); (case side1 => exact (by repeat (first | exact Ag.out | (with_reducible refine Kd.C_alloc ?_ _) | (with_reducible refine Kd.C_drewN ?_ _) | (with_reducible refine Kd.C_drew ?_)))); (case side2 => exact Ah.out); rintro e w5 ⟨rfl, hb⟩; replace HB := hbS Z0 hb; (try clear hb)))
  go_ret
  exact ⟨Z10, Z0⟩
 ·replace c3 := Bool.eq_false_iff.mpr c3
  subst c3
  have H1 : (some false) = some r := by rw [if_neg (show ¬ (false = true) by decide)] at H; exact H
  clear H; have H := H1; clear H1; obtain rfl := Option.some.inj H
  go_enter Try.func57, Try.ntmps57
  go_wp2_with (first | ((with_reducible refine gate_callee (f := 59) rfl ?_); refine glE (some 5) Try.func59 #[.int .i64 (l0.length : Int), .int .i64 1, .int .i64 6] ?_; (with_reducible refine (impl_in.calls (l0.length : Int) 1 6 false _ A2.out).mono ?_); rintro e w' ⟨rfl, ⟨nd, rfl⟩⟩; refine ⟨_, rfl, ?_⟩))
  go_ret
  exact ⟨Z10, Z0⟩
def slices_Clone_int.f (l0 : List (Int)) : Option (List (Int)) := if l0.length < 17592186044416 then some l0 else none
theorem slices_Clone_int.calls (A0 : Option Addr) (c0 : Nat) (l0 : List (Int)) (r : List (Int)) (w : World) (Ab : Kd.C (Kd.int .i64) w A0 l0.length l0) (Ae : l0.length ≤ c0) (h : slices_Clone_int.f l0 = some r) :
  Calls Try.prog 58 #[.slice A0 l0.length c0] w fun e w' => ∃ v0_ : Value, e = .returned (v0_) ∧ Kd.R (Kd.int .i64) 3 w' w.heap.size (fun _ => True) v0_ r ∧ Below w.heap.size w w' := by
 unfold slices_Clone_int.f at h
 by_cases hq : l0.length < 17592186044416
 case neg => rw [if_neg hq] at h; cases h
 rw [if_pos hq] at h; obtain rfl := Option.some.inj h; have HQ := Aside0.mk hq; clear h hq; cases A0 with
 | none =>
  have hn : l0 = [] := by
   cases l0 with
   | nil => rfl
   | cons x t => exact absurd (Ab.2.2 (by simp)) (by rintro ⟨ad, e, _⟩; cases e)
  subst hn
  have Ah : ∀ (w : World) (a : Option Addr) (n c n' c' : Nat), (binOp .eql 22 (.slice a n c) (.slice none n' c')).run Try.prog w = .ok (.bool a.isNone) w := fun w a n c n' c' => Lib.run_eql_slice_nil w _ _ a n c n' c' Try.underlying22
  clear Ab Ae
  go_enter Try.func58, Try.ntmps58
  go_wp2
  go_ret
  exact ⟨_, rfl, Kd.R_nil _ _ _ _ _, Below.refl _ _⟩
 | some ad =>
  have Ah : ∀ (w : World) (a : Option Addr) (n c n' c' : Nat), (binOp .eql 22 (.slice a n c) (.slice none n' c')).run Try.prog w = .ok (.bool a.isNone) w := fun w a n c n' c' => Lib.run_eql_slice_nil w _ _ a n c n' c' Try.underlying22
  have Ai := Aside0.mk Ab; clear Ab Ae; have HB := aM (Below.refl w.heap.size w); obtain ⟨y0, Ac⟩ : ∃ y_ : List (Int), y_ = [] := ⟨_, rfl⟩; have LMc := aM (show y0.length + l0.length < 17592186044416 by rw [Ac]; simpa using HQ.out); obtain ⟨y1, Ad⟩ : ∃ y_ : List (Int), y_ = (y0 ++ l0) := ⟨_, rfl⟩
  have e1 : y1 = l0 := by rw [Ad, Ac]; rfl
  have Af := Aside0.mk Ac; have Aj := Aside0.mk Ad; have E1 := Aside0.mk e1; clear Ac Ad e1
  go_enter Try.func58, Try.ntmps58
  go_wp2_with (first | ((with_reducible refine gate_dst (N := 5) rfl ?_); refine Kd.R_lit (Kd.int .i64) _ 3 ?hg (N := 5) ?hd (xs := ([] : List (Int))) (inner := []) (ok := fun _ => True) (okp := fun _ => True) ?hr ?hp (fun _ hk => hk) trivial (Below.refl _ _) (Nat.le_refl _) (by simp) ?_; (case hd => rfl); (case hg => rfl); (case hr => first | (go_simp; done) | (go_simp; rfl)); (case hp => exact (Reps.none _ _)); intro v5 w3 Aa hb hg_ hnew_; clear hg_ hnew_; (first | rw [← Af.out] at Aa | (simp only [Int.reduceToNat] at Aa; rw [← Af.out] at Aa)); have Ag := aM (Kd.R_lower Aa (below_size Z0)); replace HB := hbS Z0 hb; clear hb Aa) | ((with_reducible refine gate_builtin (b := .append) (xs := #[.tmp 5, .tmp 6]) rfl ?_); at_builtin; refine Kd.R_append_rows (Kd.int .i64) (w0 := w) w.heap.size rfl (.tmp 5) (.tmp 6) 22 3 (.int .i64 0) 8 rfl Try.underlying22 info3 rfl (by decide) (by omega) v5 y0 l0 _ _ _ (fun _ => True) (fun _ => False) rfl rfl ?aO ?aR (fun _ _ h => h) (fun _ h => h.elim) ?aF ?aB ?aS ?aL ?_; (case aR => repeat (first | exact (Kd.C_below Ai.out HB.out) | (with_reducible refine Kd.C_alloc ?_ _) | (with_reducible refine Kd.C_drewN ?_ _) | (with_reducible refine Kd.C_drew ?_))); (case aB => exact Z0); (case aF => exact (fun _ _ => trivial)); (case aO => exact Z19); (case aS => exact (below_size Z0)); (case aL => have := LMc.out; omega); intro v7 w5 ho hb hg hat; rw [← Aj.out] at ho; replace HB := aM (hb); have Ak := aM (ho); clear Ag; clear ho hb hg hat))
  go_ret
  exact ⟨_, Z201, by rw [← E1.out]; (with_reducible repeat (first | apply Kd.R_alloc | apply Kd.R_drewN | apply Kd.R_drew)); exact Ak.out, Z0⟩
mutual
def impl_IsAssignment.j0 : Nat → Int → List Int → List Int → Bool → Int → Int → List Int → Option (Bool × Bool)
 | 0, _, _, _, _, _, _, _ => none
 | k + 1, x1, x2, x3, x26, x315000, x315001, x315002 => if x26 = true then (some (false, false)) else ((impl_Chart_sizesOf.f k x315000 x315001 x315002 x1).bind fun t318 => ((slices_Clone_int.f x2).bind fun t321 => (if (t318.length : Int) = (x3.length : Int) then (impl_IsAssignment.l0 k x2 t318 t321 x3 (x3.length : Int) 0) else (some (false, true)))))
def impl_IsAssignment.l0 : Nat → List Int → List Int → List Int → List Int → Int → Int → Option (Bool × Bool)
 | 0, _, _, _, _, _, _ => none
 | k + 1, x2, x10, x11, x37, x38, x39 => if x39 < x38 then (if 0 ≤ x39 then (if x39 < (x37.length : Int) then ((impl_in.f (rd x37 x39) 0 (wrap64 ((x2.length : Int) - 1))).bind fun t325 => (if t325 = true then (if 0 ≤ (rd x37 x39) then (if (rd x37 x39) < (x11.length : Int) then (if x39 < (x10.length : Int) then (if (rd x11 (rd x37 x39)) < (rd x10 x39) then (some (false, true)) else (impl_IsAssignment.l0 k x2 x10 (x11.set ((rd x37 x39) : Int).toNat (wrap64 ((rd x11 (rd x37 x39)) - (rd x10 x39)))) x37 x38 (wrap64 (x39 + 1)))) else (none)) else (none)) else (none)) else (some (false, true)))) else (none)) else (none)) else (some (true, true))
end
def impl_IsAssignment.f (k : Nat) (a0_0 : Int) (a0_1 : Int) (l0_2 : List Int) (a1 : Int) (l2 : List Int) (l3 : List Int) : Option (Bool × Bool) := (impl_IsChart.f a0_0 a0_1 l0_2).bind fun t315 => (if t315 = true then ((impl_isColor.f a1).bind fun t316 => (if t316 = true then ((impl_areLots.f l2).bind fun t317 => (impl_IsAssignment.j0 k a1 l2 l3 (!t317) a0_0 a0_1 l0_2)) else (impl_IsAssignment.j0 k a1 l2 l3 true a0_0 a0_1 l0_2))) else (impl_IsAssignment.j0 k a1 l2 l3 true a0_0 a0_1 l0_2))
def impl_IsAssignment.T9 : Bool × List (List Nat × List Nat) := (true, [([], []), ([], []), ([1], [1]), ([2], [2]), ([0, 3], [0, 3]), ([4], [4]), ([5, 4], [5]), ([6], [6]), ([6], [6]), ([7, 8, 6], [6, 7, 8]), ([9, 6], [6, 9]), ([6], [6]), ([6], [6]), ([11, 12, 6], [6, 11, 12]), ([13, 6], [6, 13]), ([10, 14, 6], [6, 10, 14]), ([6, 15], [6, 15])])
def impl_IsAssignment.B9 : List Nat := [0, 0, 2, 6, 15, 31, 63, 127, 127, 511, 1023, 127, 127, 6271, 14463, 32767, 65535]
theorem impl_IsAssignment.tab9 : rtab .any (opsOf Try.f29 9) = impl_IsAssignment.T9 := by kernel_rfl
theorem impl_IsAssignment.bits9 : waitsOk impl_IsAssignment.T9.2 impl_IsAssignment.B9 = true := by kernel_rfl
def impl_IsAssignment.T11 : Bool × List (List Nat × List Nat) := (true, [([], []), ([], []), ([0, 1], [0, 1]), ([2], [2]), ([], []), ([], []), ([4, 5], [4, 5]), ([6], [6]), ([3, 7], [3, 7]), ([0, 1, 0, 1, 2, 3, 4, 5, 6, 7, 8], [0, 1]), ([9, 8, 0, 1, 2, 3, 4, 5, 6, 7, 8], [8, 9])])
def impl_IsAssignment.B11 : List Nat := [0, 0, 3, 7, 0, 0, 48, 112, 255, 511, 1023]
theorem impl_IsAssignment.tab11 : rtab .any (opsOf Try.f29 11) = impl_IsAssignment.T11 := by kernel_rfl
theorem impl_IsAssignment.bits11 : waitsOk impl_IsAssignment.T11.2 impl_IsAssignment.B11 = true := by kernel_rfl
theorem impl_IsAssignment.calls (k : Nat) (Ah : Int) (Ai : Int) (Ap : Option Addr) (Aq : Nat) (Ag : List Int) (a1 : Int) (A2 : Option Addr) (c2 : Nat) (l2 : List Int) (A3 : Option Addr) (c3 : Nat) (l3 : List Int) (r1 : Bool) (r2 : Bool) (w : World) (Ci : Kd.C (Kd.int .i64) w Ap Ag.length Ag) (Cj : Ag.length ≤ Aq) (D3 : Kd.C (Kd.int .i64) w A2 l2.length l2) (D4 : l2.length ≤ c2) (D5 : Kd.C (Kd.int .i64) w A3 l3.length l3) (D6 : l3.length ≤ c3) (h : impl_IsAssignment.f k Ah Ai Ag a1 l2 l3 = some (r1, r2)) :
  Calls Try.prog 29 #[.agg #[.int .i64 Ah, .int .i64 Ai, .slice Ap Ag.length Aq], .int .i64 a1, .slice A2 l2.length c2, .slice A3 l3.length c3] w fun e w' => e = .returned (.tuple #[.bool r1, .bool r2]) ∧ Below w.heap.size w w' := by
 have hu28 := Try.underlying28; have Ax := Aside0.mk Ci; have Ay := Aside0.mk Cj; clear Ci Cj; have Dr := Aside0.mk D3; have Ds := Aside0.mk D4; clear D3 D4; have Dt := Aside0.mk D5; have El := Aside0.mk D6; clear D5 D6; have HB := aM (Below.refl w.heap.size w); have H : ((impl_IsChart.f Ah Ai Ag).bind fun Ca => (if Ca = true then ((impl_isColor.f a1).bind fun Az => (if Az = true then ((impl_areLots.f l2).bind fun Ao => (impl_IsAssignment.j0 k a1 l2 l3 (!Ao) Ah Ai Ag)) else (impl_IsAssignment.j0 k a1 l2 l3 true Ah Ai Ag))) else (impl_IsAssignment.j0 k a1 l2 l3 true Ah Ai Ag))) = some (r1, r2) := h; clear h; have Du := Aside0.mk H; clear H
 go_enter Try.func29, Try.ntmps29
 go_upto_region 1 with (first | ((with_reducible refine gate_dst (N := 4) rfl ?_); refine bxE 4 #[.int .i64 Ah, .int .i64 Ai, .slice Ap Ag.length Aq] 28 ?_; intro B7 hg w6 hbox hb; have Ab := aM (hbox); have D7 := gwS hg Z0; have Ae := gwS hg Z0; replace HB := hbS Z0 hb; clear hb hbox hg))
 (try simp only [Act.put, List.setIfInBounds_toArray, List.set_cons_zero, List.set_cons_succ])
 go_cut [26] (fun Ec wc => ∃ (kq : Nat) (Bh : Bool), Ec = .bool Bh ∧ Aside0 (impl_IsAssignment.j0 kq a1 l2 l3 Bh Ah Ai Ag = some (r1, r2)) ∧ Aside0 (kq ≤ k) ∧ Aside0 (wc.heap[B7]? = some (.cells #[.int .i64 Ah, .int .i64 Ai, (.slice Ap Ag.length Aq)] 28 (0, 0))) ∧ Aside0 (Below w.heap.size w wc))
 case first =>
  have H := Du.out; clear Du; replace H := Option.bind_eq_some_iff.mp H; obtain ⟨Ca, D8, H⟩ := H; replace H : (if Ca = true then ((impl_isColor.f a1).bind fun Az => (if Az = true then ((impl_areLots.f l2).bind fun Ao => (impl_IsAssignment.j0 k a1 l2 l3 (!Ao) Ah Ai Ag)) else (impl_IsAssignment.j0 k a1 l2 l3 true Ah Ai Ag))) else (impl_IsAssignment.j0 k a1 l2 l3 true Ah Ai Ag)) = some (r1, r2) := H; have A7 := Aside0.mk D8; clear D8
  by_cases c8 : Ca = true
  ·subst c8
   have H1 : ((impl_isColor.f a1).bind fun Az => (if Az = true then ((impl_areLots.f l2).bind fun Ao => (impl_IsAssignment.j0 k a1 l2 l3 (!Ao) Ah Ai Ag)) else (impl_IsAssignment.j0 k a1 l2 l3 true Ah Ai Ag))) = some (r1, r2) := by rw [if_pos rfl] at H; exact H
   clear H; have H := H1; clear H1; replace H := Option.bind_eq_some_iff.mp H; obtain ⟨Az, D9, H⟩ := H; replace H : (if Az = true then ((impl_areLots.f l2).bind fun Ao => (impl_IsAssignment.j0 k a1 l2 l3 (!Ao) Ah Ai Ag)) else (impl_IsAssignment.j0 k a1 l2 l3 true Ah Ai Ag)) = some (r1, r2) := H; have A9 := Aside0.mk D9; clear D9
   by_cases Cw : Az = true
   ·subst Cw
    have H1 : ((impl_areLots.f l2).bind fun Ao => (impl_IsAssignment.j0 k a1 l2 l3 (!Ao) Ah Ai Ag)) = some (r1, r2) := by rw [if_pos rfl] at H; exact H
    clear H; have H := H1; clear H1; replace H := Option.bind_eq_some_iff.mp H; obtain ⟨Ao, Cz, H⟩ := H; replace H : (impl_IsAssignment.j0 k a1 l2 l3 (!Ao) Ah Ai Ag) = some (r1, r2) := H; have Ed := Aside0.mk Cz; clear Cz; have H' := Aside0.mk H; clear H; obtain ⟨Bi, Bj, Bk⟩ := bz3 Ab; obtain ⟨Bl, Bm, Bn⟩ := fz3 Ab
    go_wp2_with (first | ((with_reducible refine gate_callee (f := 45) rfl ?_); refine glE (some 15) Try.func45 #[.agg #[.int .i64 Ah, .int .i64 Ai, .slice Ap Ag.length Aq]] ?_; (with_reducible refine (impl_IsChart.calls Ah Ai _ _ Ag true _ ?side1 ?side2 A7.out).mono ?_); (case side1 => exact Z91); (case side2 => exact Ay.out); rintro e Em ⟨rfl, hb⟩; refine ⟨_, rfl, ?_⟩; replace Ab := bkB Ab hb; replace HB := hbS Z9 hb; (try clear hb)) | (go_at_call 53; (with_reducible refine (impl_isColor.calls a1 true _ A9.out).mono ?_); rintro e w' ⟨rfl, ⟨nd, rfl⟩⟩) | (go_at_call 57; (with_reducible refine (impl_areLots.calls _ _ l2 Ao _ ?side1 ?side2 Ed.out).mono ?_); (case side1 => repeat (first | exact (Kd.C_below Dr.out Z9) | (with_reducible refine Kd.C_alloc ?_ _) | (with_reducible refine Kd.C_drewN ?_ _) | (with_reducible refine Kd.C_drew ?_))); (case side2 => exact Ds.out); rintro e En ⟨rfl, hb⟩; replace Ab := bkB Ab hb; replace HB := hbS Z9 hb; (try clear hb)))
    go_meet
    case rel => exact ⟨_, (!Ao), Z14, H', ⟨Z119⟩, ⟨Z12⟩, ⟨Z9⟩⟩
   ·replace Cw := Bool.eq_false_iff.mpr Cw
    subst Cw
    have H1 : (impl_IsAssignment.j0 k a1 l2 l3 true Ah Ai Ag) = some (r1, r2) := by rw [if_neg (show ¬ (false = true) by decide)] at H; exact H
    clear H; have H := H1; clear H1; have H' := Aside0.mk H; clear H; obtain ⟨Bo, Bp, Bq⟩ := bz3 Ab; obtain ⟨Br, Bs, Bt⟩ := fz3 Ab
    go_wp2_with (first | ((with_reducible refine gate_callee (f := 45) rfl ?_); refine glE (some 15) Try.func45 #[.agg #[.int .i64 Ah, .int .i64 Ai, .slice Ap Ag.length Aq]] ?_; (with_reducible refine (impl_IsChart.calls Ah Ai _ _ Ag true _ ?side1 ?side2 A7.out).mono ?_); (case side1 => exact Z91); (case side2 => exact Ay.out); rintro e Eo ⟨rfl, hb⟩; refine ⟨_, rfl, ?_⟩; replace Ab := bkB Ab hb; replace HB := hbS Z9 hb; (try clear hb)) | (go_at_call 53; (with_reducible refine (impl_isColor.calls a1 false _ A9.out).mono ?_); rintro e w' ⟨rfl, ⟨nd, rfl⟩⟩))
    go_meet
    case rel => exact ⟨_, (true), Z14, H', ⟨Z119⟩, ⟨Z12⟩, ⟨Z9⟩⟩
  ·replace c8 := Bool.eq_false_iff.mpr c8
   subst c8
   have H1 : (impl_IsAssignment.j0 k a1 l2 l3 true Ah Ai Ag) = some (r1, r2) := by rw [if_neg (show ¬ (false = true) by decide)] at H; exact H
   clear H; have H := H1; clear H1; have H' := Aside0.mk H; clear H; obtain ⟨Bu, Bv, Bw⟩ := bz3 Ab; obtain ⟨Bx, Bz, B0⟩ := fz3 Ab
   go_wp2_with (first | ((with_reducible refine gate_callee (f := 45) rfl ?_); refine glE (some 15) Try.func45 #[.agg #[.int .i64 Ah, .int .i64 Ai, .slice Ap Ag.length Aq]] ?_; (with_reducible refine (impl_IsChart.calls Ah Ai _ _ Ag false _ ?side1 ?side2 A7.out).mono ?_); (case side1 => exact Z91); (case side2 => exact Ay.out); rintro e Ep ⟨rfl, hb⟩; refine ⟨_, rfl, ?_⟩; replace Ab := bkB Ab hb; replace HB := hbS Z9 hb; (try clear hb)))
   go_meet
   case rel => exact ⟨_, (true), Z14, H', ⟨Z119⟩, ⟨Z12⟩, ⟨Z9⟩⟩
 case rest =>
  clear Du; (try clear c1); (try clear c2); (try clear p2); (try clear c3); (try clear c4); (try clear c8); (try clear Cw); (try clear Bi); (try clear Bj); (try clear Bk); (try clear Bo); (try clear Bp); (try clear Bq); (try clear Bu); (try clear Bv); (try clear Bw); (try clear Bl); (try clear Bm); (try clear Bn); (try clear Br); (try clear Bs); (try clear Bt); (try clear Bx); (try clear Bz); (try clear B0); obtain ⟨kq, Bh, rfl, HA, HJ4, Ab, HB⟩ := hcut; cases kq with
  | zero => exact absurd HA.out (by simp [impl_IsAssignment.j0])
  | succ Ck =>
   have H := HA.out; clear HA
   simp only [impl_IsAssignment.j0] at H
   by_cases C0 : Bh = true
   ·subst C0
    have H1 : (some (false, false)) = some (r1, r2) := by rw [if_pos rfl] at H; exact H
    clear H; have H := H1; clear H1
    simp only [Option.some.injEq, Prod.mk.injEq] at H
    obtain ⟨rfl, rfl⟩ := H
    go_wp2
    go_ret2
    exact ⟨Z10, Z9⟩
   ·replace C0 := Bool.eq_false_iff.mpr C0
    subst C0
    have H1 : ((impl_Chart_sizesOf.f Ck Ah Ai Ag a1).bind fun Ac => ((slices_Clone_int.f l2).bind fun Ba => (if (Ac.length : Int) = (l3.length : Int) then (impl_IsAssignment.l0 Ck l2 Ac Ba l3 (l3.length : Int) 0) else (some (false, true))))) = some (r1, r2) := by rw [if_neg (show ¬ (false = true) by decide)] at H; exact H
    clear H; have H := H1; clear H1; replace H := Option.bind_eq_some_iff.mp H; obtain ⟨Ac, C1, H⟩ := H; replace H : ((slices_Clone_int.f l2).bind fun Ba => (if (Ac.length : Int) = (l3.length : Int) then (impl_IsAssignment.l0 Ck l2 Ac Ba l3 (l3.length : Int) 0) else (some (false, true)))) = some (r1, r2) := H; have Ea := Aside0.mk C1; clear C1; replace H := Option.bind_eq_some_iff.mp H; obtain ⟨Ba, C3, H⟩ := H; replace H : (if (Ac.length : Int) = (l3.length : Int) then (impl_IsAssignment.l0 Ck l2 Ac Ba l3 (l3.length : Int) 0) else (some (false, true))) = some (r1, r2) := H; have Eb := Aside0.mk C3; clear C3
    by_cases B6 : (Ac.length : Int) = (l3.length : Int)
    ·rw [if_pos B6] at H
     have c22b0 : ((Ac.length : Int) == (l3.length : Int)) = true := beq_iff_eq.mpr B6; have c22b1 : ((Ac.length : Int) != (l3.length : Int)) = false := bne_eq_false_iff_eq.mpr B6
     have c22b2 : (Ac.length == l3.length) = true := by first | simpa using B6 | (simp at B6 ⊢; omega)
     clear B6; have H' := Aside0.mk H; clear H; obtain ⟨Cb, Cc, Cd⟩ := bz3 Ab; obtain ⟨Ce, Cf, Cg⟩ := fz3 Ab
     go_wp2_with (first | ((with_reducible refine gate_callee (f := 54) rfl ?_); refine glE (some 29) Try.func54 #[.agg #[.int .i64 Ah, .int .i64 Ai, .slice Ap Ag.length Aq], .int .i64 a1] ?_; (with_reducible refine (impl_Chart_sizesOf.calls Ck Ah Ai _ _ Ag a1 Ac _ ?side1 ?side2 Ea.out).mono ?_); (case side1 => exact Z91); (case side2 => exact Ay.out); rintro e Er ⟨Dv, rfl, B5, hb⟩; refine ⟨_, rfl, ?_⟩; have Am := aM (Kd.R_lower B5 (below_size Z9)); replace Ab := bkB Ab hb; replace HB := hbS Z9 hb; (try clear hb); (try clear B5)) | ((with_reducible refine gate_callee (f := 58) rfl ?_); refine glE (some 31) Try.func58 #[.slice A2 l2.length c2] ?_; (with_reducible refine (slices_Clone_int.calls _ _ l2 Ba _ ?side1 ?side2 Eb.out).mono ?_); (case side1 => exact Z142); (case side2 => exact Ds.out); rintro e Es ⟨Cn, rfl, B5, hb⟩; refine ⟨_, rfl, ?_⟩; have Cl := aM (Kd.R_lower (Kd.R_new' B5 (Kd.R_lt Z112)) (below_size Z9)); replace Am := aM (Kd.R_elder' Z112 (Kd.R_base B5) hb); replace Ab := bkB Ab hb; replace HB := hbS Z9 hb; (try clear hb); (try clear B5); obtain ⟨C4, Ch, Dw⟩ := Kd.R_slice Am.out; subst Dw))
     go_loopg [39] Ck (fun kq Ee w' => ∃ (Ad : List Int) (Aa : Int), Ee = .int .i64 Aa ∧ Aside0 (impl_IsAssignment.l0 kq l2 Ac Ad l3 (l3.length : Int) Aa = some (r1, r2)) ∧ Aside0 (kq ≤ Ck) ∧ Aside0 (Kd.R (Kd.int .i64) 3 w' w.heap.size (fun k_ => nV k_ Cn) (.slice C4 Ac.length Ch) Ac) ∧ Aside0 (Kd.R (Kd.int .i64) 3 w' w.heap.size (fun k_ => nS k_ C4 Ac.length Ch) Cn Ad) ∧ Aside0 (w'.heap[B7]? = some (.cells #[.int .i64 Ah, .int .i64 Ai, (.slice Ap Ag.length Aq)] 28 (0, 0))) ∧ Aside0 (Below w.heap.size w w'))
     case atStart => exact ⟨(Ba), (0), Z14, H', ⟨Nat.le_refl _⟩, ⟨by (with_reducible repeat (first | apply Kd.R_alloc | apply Kd.R_drewN | apply Kd.R_drew)); exact Kd.R_mono Am.out (fun _ hk => hk.2)⟩, ⟨by (with_reducible repeat (first | apply Kd.R_alloc | apply Kd.R_drewN | apply Kd.R_drew)); exact Kd.R_mono Cl.out (fun _ hk => hk.2)⟩, ⟨Z12⟩, ⟨Z9⟩⟩
     case round =>
      clear H'; (try clear c1); (try clear c2); (try clear p2); (try clear c3); (try clear c4); (try clear c5); (try clear c8); (try clear Cw); (try clear C0); (try clear B6); (try clear c22b0); (try clear c22b1); (try clear c22b2); (try clear Bi); (try clear Bj); (try clear Bk); (try clear Bo); (try clear Bp); (try clear Bq); (try clear Bu); (try clear Bv); (try clear Bw); (try clear Cb); (try clear Cc); (try clear Cd); (try clear Bl); (try clear Bm); (try clear Bn); (try clear Br); (try clear Bs); (try clear Bt); (try clear Bx); (try clear Bz); (try clear B0); (try clear Ce); (try clear Cf); (try clear Cg); (try clear p2); obtain ⟨Ad, Aa, rfl, HA, HK2, Aj, Af, Ab, HB⟩ := hrel; cases gk with
      | zero => exact absurd HA.out (by simp [impl_IsAssignment.l0])
      | succ k2 =>
       have H := HA.out; clear HA
       simp only [impl_IsAssignment.l0] at H
       by_cases Cx : Aa < (l3.length : Int)
       ·rw [if_pos Cx] at H
        have c27b0 : decide (Aa < (l3.length : Int)) = true := decide_eq_true Cx; clear Cx
        by_cases De : 0 ≤ Aa
        ·rw [if_pos De] at H
         have c28b0 : decide (0 ≤ Aa) = true := decide_eq_true De; clear De
         by_cases Df : Aa < (l3.length : Int)
         ·rw [if_pos Df] at H
          have c29b0 : decide (Aa < (l3.length : Int)) = true := decide_eq_true Df; clear Df; replace H := Option.bind_eq_some_iff.mp H; obtain ⟨C5, C6, H⟩ := H; replace H : (if C5 = true then (if 0 ≤ (rd l3 Aa) then (if (rd l3 Aa) < (Ad.length : Int) then (if Aa < (Ac.length : Int) then (if (rd Ad (rd l3 Aa)) < (rd Ac Aa) then (some (false, true)) else (impl_IsAssignment.l0 k2 l2 Ac (Ad.set ((rd l3 Aa) : Int).toNat (wrap64 ((rd Ad (rd l3 Aa)) - (rd Ac Aa)))) l3 (l3.length : Int) (wrap64 (Aa + 1)))) else (none)) else (none)) else (none)) else (some (false, true))) = some (r1, r2) := H; have Dx := Aside0.mk C6; clear C6
          by_cases Dg : C5 = true
          ·subst Dg
           have H1 : (if 0 ≤ (rd l3 Aa) then (if (rd l3 Aa) < (Ad.length : Int) then (if Aa < (Ac.length : Int) then (if (rd Ad (rd l3 Aa)) < (rd Ac Aa) then (some (false, true)) else (impl_IsAssignment.l0 k2 l2 Ac (Ad.set ((rd l3 Aa) : Int).toNat (wrap64 ((rd Ad (rd l3 Aa)) - (rd Ac Aa)))) l3 (l3.length : Int) (wrap64 (Aa + 1)))) else (none)) else (none)) else (none)) = some (r1, r2) := by rw [if_pos rfl] at H; exact H
           clear H; have H := H1; clear H1
           by_cases Dh : 0 ≤ (rd l3 Aa)
           ·rw [if_pos Dh] at H
            have c32b0 : decide (0 ≤ (rd l3 Aa)) = true := decide_eq_true Dh; clear Dh
            by_cases Di : (rd l3 Aa) < (Ad.length : Int)
            ·rw [if_pos Di] at H
             have c33b0 : decide ((rd l3 Aa) < (Ad.length : Int)) = true := decide_eq_true Di; clear Di
             by_cases Dj : Aa < (Ac.length : Int)
             ·rw [if_pos Dj] at H
              have c34b0 : decide (Aa < (Ac.length : Int)) = true := decide_eq_true Dj; clear Dj
              by_cases Cy : (rd Ad (rd l3 Aa)) < (rd Ac Aa)
              ·rw [if_pos Cy] at H
               have c35b0 : decide ((rd Ad (rd l3 Aa)) < (rd Ac Aa)) = true := decide_eq_true Cy; clear Cy
               simp only [Option.some.injEq, Prod.mk.injEq] at H
               obtain ⟨rfl, rfl⟩ := H; have Ar : 0 ≤ (Aa : Int) := of_decide_eq_true Z3; have Au : Aa < (l3.length : Int) := of_decide_eq_true Z3; obtain ⟨ad324, e324, Ak⟩ := Kd.at_int Dt.out Aa Ar Au; cases e324; replace Ak := (HB.out.cell (World.block_lt_of_cell? w _ Ak)).trans Ak; replace Ar := eq_true Ar; replace Au := eq_true Au
               try go_wp2
               replace Aj := aM (Kd.R_drew Aj.out); replace Af := aM (Kd.R_drew Af.out); replace Ab := aM (blk_drew Ab.out); replace HB := aM (below_drew1 HB.out); obtain ⟨Ef, Eg, C7⟩ := Kd.R_slice Af.out
               (first | subst C7 | (injection C7 with f1_ f2_ f3_; have f4_ := f1_.symm; have f5_ := f3_.symm; clear f1_ f2_ f3_; subst f4_; subst f5_))
               have Bc : 0 ≤ ((rd l3 Aa) : Int) := of_decide_eq_true Z3; have Bd : (rd l3 Aa) < (Ad.length : Int) := of_decide_eq_true Z3; obtain ⟨ad326, e326, Al⟩ := Kd.at_int (Kd.R_reads' Af.out).2.2 (rd l3 Aa) Bc Bd; cases e326; replace Bc := eq_true Bc; replace Bd := eq_true Bd; have Bf : 0 ≤ (Aa : Int) := of_decide_eq_true Z3; have Bg : Aa < (Ac.length : Int) := of_decide_eq_true Z3; obtain ⟨ad327, e327, An⟩ := Kd.at_int (Kd.R_reads' Aj.out).2.2 Aa Bf Bg; cases e327; replace Bf := eq_true Bf; replace Bg := eq_true Bg; refine start_ (n := 17) (S := fun w' => w'.cell? (ad326.add ((rd l3 Aa)).toNat) = some (.int .i64 (rd Ad (rd l3 Aa))) ∧ w'.cell? (ad327.add (Aa).toNat) = some (.int .i64 (rd Ac Aa))) (ds := []) #[false, false, false, false, false, false, false, false, false, false, false, false, false, false, false, false, false] Z61 rfl rfl ⟨Al, An⟩ (fun hHeld => ?_); refine with_tabW impl_IsAssignment.tab9 impl_IsAssignment.bits9 (fun HT_ HW_ => ?_)
               generalize wr.drew = Et at Aj Af Ab HB Al An hHeld ⊢
               refine puR 0 44 #[true, false, false, false, false, false, false, false, false, false, false, false, false, false, false, false, false] HT_ rfl rfl ?_; refine puR 1 45 #[true, true, false, false, false, false, false, false, false, false, false, false, false, false, false, false, false] HT_ rfl rfl ?_; refine puR 2 46 #[true, true, true, false, false, false, false, false, false, false, false, false, false, false, false, false, false] HT_ rfl rfl ?_; refine puR 3 47 #[true, true, true, true, false, false, false, false, false, false, false, false, false, false, false, false, false] HT_ rfl rfl ?_; refine one_ (i := 4) (N := some 48) #[true, true, true, true, true, false, false, false, false, false, false, false, false, false, false, false, false] rfl rfl (one_of HT_.out Z61) (by decide) (fun K hK => ?_); refine goes_ Try.func59 Z61 rfl #[.int .i64 (rd l3 Aa), .int .i64 0, .int .i64 (wrap64 ((l2.length : Int) - 1))] (by rfl) rfl rfl Z55 ?_; (with_reducible refine (impl_in.calls (rd l3 Aa) 0 (wrap64 ((l2.length : Int) - 1)) true _ Dx.out).mono ?_); rintro e w' ⟨rfl, ⟨nd, rfl⟩⟩; refine ⟨_, rfl, ?_⟩; refine hK.out _ _ (by exact ⟨hHeld.1, hHeld.2⟩) (fun hHeld => ?_); clear hK K; refine noR 48 ?_; refine puR 5 49 #[true, true, true, true, true, true, false, false, false, false, false, false, false, false, false, false, false] HT_ rfl rfl ?_; refine puR 6 50 #[true, true, true, true, true, true, true, false, false, false, false, false, false, false, false, false, false] HT_ rfl rfl ?_; refine puR 7 51 #[true, true, true, true, true, true, true, true, false, false, false, false, false, false, false, false, false] HT_ rfl rfl ?_; refine puR 8 52 #[true, true, true, true, true, true, true, true, true, false, false, false, false, false, false, false, false] HT_ rfl rfl ?_; refine puR 9 53 #[true, true, true, true, true, true, true, true, true, true, false, false, false, false, false, false, false] HT_ rfl rfl ?_; refine puR 11 55 #[true, true, true, true, true, true, true, true, true, true, false, true, false, false, false, false, false] HT_ rfl rfl ?_; refine puR 12 56 #[true, true, true, true, true, true, true, true, true, true, false, true, true, false, false, false, false] HT_ rfl rfl ?_; refine puR 13 57 #[true, true, true, true, true, true, true, true, true, true, false, true, true, true, false, false, false] HT_ rfl rfl ?_; refine taR 10 54 #[true, true, true, true, true, true, true, true, true, true, true, true, true, true, false, false, false] HT_ HW_ hHeld rfl rfl ?_; refine taR 14 58 #[true, true, true, true, true, true, true, true, true, true, true, true, true, true, true, false, false] HT_ HW_ hHeld rfl rfl ?_; refine puR 15 59 #[true, true, true, true, true, true, true, true, true, true, true, true, true, true, true, true, false] HT_ rfl rfl ?_; refine puR 16 60 #[true, true, true, true, true, true, true, true, true, true, true, true, true, true, true, true, true] HT_ rfl rfl ?_; refine done_ (done_of HT_.out Z61) ?_
               try go_wp2
               go_ret2
               exact ⟨Z10, Z9⟩
              ·rw [if_neg Cy] at H
               have c35b0 : decide ((rd Ad (rd l3 Aa)) < (rd Ac Aa)) = false := decide_eq_false Cy; clear Cy; obtain ⟨C8, Bb⟩ : ∃ y_ : List Int, y_ = (Ad.set ((rd l3 Aa) : Int).toNat (wrap64 ((rd Ad (rd l3 Aa)) - (rd Ac Aa)))) := ⟨_, rfl⟩
               replace H : (impl_IsAssignment.l0 k2 l2 Ac C8 l3 (l3.length : Int) (wrap64 (Aa + 1))) = some (r1, r2) := by first | (rw [Bb]; with_reducible exact H) | (have H2_ := (Option.bind_some _ _).symm.trans H; rw [Bb]; with_reducible exact H2_) | (have H2_ := (Option.bind_some _ _).symm.trans H; with_reducible exact H2_) | with_reducible exact H | (rw [Bb]; exact H) | exact H
               have C9 := Aside0.mk Bb; clear Bb; have H' := Aside0.mk H; clear H; have Ar : 0 ≤ (Aa : Int) := of_decide_eq_true Z3; have Au : Aa < (l3.length : Int) := of_decide_eq_true Z3; obtain ⟨ad324, e324, Ak⟩ := Kd.at_int Dt.out Aa Ar Au; cases e324; replace Ak := (HB.out.cell (World.block_lt_of_cell? w _ Ak)).trans Ak; replace Ar := eq_true Ar; replace Au := eq_true Au
               try go_wp2
               replace Aj := aM (Kd.R_drew Aj.out); replace Af := aM (Kd.R_drew Af.out); replace Ab := aM (blk_drew Ab.out); replace HB := aM (below_drew1 HB.out); obtain ⟨Eh, Da, Db⟩ := Kd.R_slice Af.out
               (first | subst Db | (injection Db with f1_ f2_ f3_; have f4_ := f1_.symm; have f5_ := f3_.symm; clear f1_ f2_ f3_; subst f4_; subst f5_))
               have Bc : 0 ≤ ((rd l3 Aa) : Int) := of_decide_eq_true Z3; have Bd : (rd l3 Aa) < (Ad.length : Int) := of_decide_eq_true Z3; obtain ⟨ad326, e326, Al⟩ := Kd.at_int (Kd.R_reads' Af.out).2.2 (rd l3 Aa) Bc Bd; cases e326; replace Bc := eq_true Bc; replace Bd := eq_true Bd; have Bf : 0 ≤ (Aa : Int) := of_decide_eq_true Z3; have Bg : Aa < (Ac.length : Int) := of_decide_eq_true Z3; obtain ⟨ad327, e327, An⟩ := Kd.at_int (Kd.R_reads' Aj.out).2.2 Aa Bf Bg; cases e327; replace Bf := eq_true Bf; replace Bg := eq_true Bg; refine start_ (n := 17) (S := fun w' => w'.cell? (ad326.add ((rd l3 Aa)).toNat) = some (.int .i64 (rd Ad (rd l3 Aa))) ∧ w'.cell? (ad327.add (Aa).toNat) = some (.int .i64 (rd Ac Aa))) (ds := []) #[false, false, false, false, false, false, false, false, false, false, false, false, false, false, false, false, false] Z61 rfl rfl ⟨Al, An⟩ (fun hHeld => ?_); refine with_tabW impl_IsAssignment.tab9 impl_IsAssignment.bits9 (fun HT_ HW_ => ?_)
               generalize wr.drew = Cm at Aj Af Ab HB Al An hHeld ⊢
               refine puR 0 44 #[true, false, false, false, false, false, false, false, false, false, false, false, false, false, false, false, false] HT_ rfl rfl ?_; refine puR 1 45 #[true, true, false, false, false, false, false, false, false, false, false, false, false, false, false, false, false] HT_ rfl rfl ?_; refine puR 2 46 #[true, true, true, false, false, false, false, false, false, false, false, false, false, false, false, false, false] HT_ rfl rfl ?_; refine puR 3 47 #[true, true, true, true, false, false, false, false, false, false, false, false, false, false, false, false, false] HT_ rfl rfl ?_; refine one_ (i := 4) (N := some 48) #[true, true, true, true, true, false, false, false, false, false, false, false, false, false, false, false, false] rfl rfl (one_of HT_.out Z61) (by decide) (fun K hK => ?_); refine goes_ Try.func59 Z61 rfl #[.int .i64 (rd l3 Aa), .int .i64 0, .int .i64 (wrap64 ((l2.length : Int) - 1))] (by rfl) rfl rfl Z55 ?_; (with_reducible refine (impl_in.calls (rd l3 Aa) 0 (wrap64 ((l2.length : Int) - 1)) true _ Dx.out).mono ?_); rintro e w' ⟨rfl, ⟨nd, rfl⟩⟩; refine ⟨_, rfl, ?_⟩; refine hK.out _ _ (by exact ⟨hHeld.1, hHeld.2⟩) (fun hHeld => ?_); clear hK K; refine noR 48 ?_; refine puR 5 49 #[true, true, true, true, true, true, false, false, false, false, false, false, false, false, false, false, false] HT_ rfl rfl ?_; refine puR 6 50 #[true, true, true, true, true, true, true, false, false, false, false, false, false, false, false, false, false] HT_ rfl rfl ?_; refine puR 7 51 #[true, true, true, true, true, true, true, true, false, false, false, false, false, false, false, false, false] HT_ rfl rfl ?_; refine puR 8 52 #[true, true, true, true, true, true, true, true, true, false, false, false, false, false, false, false, false] HT_ rfl rfl ?_; refine puR 9 53 #[true, true, true, true, true, true, true, true, true, true, false, false, false, false, false, false, false] HT_ rfl rfl ?_; refine puR 11 55 #[true, true, true, true, true, true, true, true, true, true, false, true, false, false, false, false, false] HT_ rfl rfl ?_; refine puR 12 56 #[true, true, true, true, true, true, true, true, true, true, false, true, true, false, false, false, false] HT_ rfl rfl ?_; refine puR 13 57 #[true, true, true, true, true, true, true, true, true, true, false, true, true, true, false, false, false] HT_ rfl rfl ?_; refine taR 10 54 #[true, true, true, true, true, true, true, true, true, true, true, true, true, true, false, false, false] HT_ HW_ hHeld rfl rfl ?_; refine taR 14 58 #[true, true, true, true, true, true, true, true, true, true, true, true, true, true, true, false, false] HT_ HW_ hHeld rfl rfl ?_; refine puR 15 59 #[true, true, true, true, true, true, true, true, true, true, true, true, true, true, true, true, false] HT_ rfl rfl ?_; refine puR 16 60 #[true, true, true, true, true, true, true, true, true, true, true, true, true, true, true, true, true] HT_ rfl rfl ?_; refine done_ (done_of HT_.out Z61) ?_
               try go_wp2
               (try (rw [drewN_self Cm]; generalize hq_ : World.drewN Cm _ = Cm; have n0_ : Aside0 (Kd.R (Kd.int .i64) 3 Cm w.heap.size (fun k_ => some k_ ≠ (.slice (some ad326) Ad.length Da : Value).ownBlock) (.slice (some ad327) Ac.length Ch) Ac) := ⟨by rw [← hq_]; exact Z39⟩; have n1_ : Aside0 (Kd.R (Kd.int .i64) 3 Cm w.heap.size (fun k_ => some k_ ≠ (.slice (some ad327) Ac.length Ch : Value).ownBlock) (.slice (some ad326) Ad.length Da) Ad) := ⟨by rw [← hq_]; exact Z73⟩; have n2_ : Aside0 (Cm.heap[B7]? = some (.cells #[.int .i64 Ah, .int .i64 Ai, .slice Ap Ag.length Aq] 28 (0, 0))) := ⟨by rw [← hq_]; exact Z12⟩; have n3_ : Aside0 (Below w.heap.size w Cm) := ⟨by rw [← hq_]; exact Z9⟩; clear Aj Af Ab HB hq_; have Aj := n0_; have Af := n1_; have Ab := n2_; have HB := n3_; clear n0_ n1_ n2_ n3_))
               replace Aj := aM (Kd.R_drew Aj.out); replace Af := aM (Kd.R_drew Af.out); replace Ab := aM (blk_drew Ab.out); replace HB := aM (below_drew1 HB.out); have Co : 0 ≤ ((rd l3 Aa) : Int) := of_decide_eq_true Z3; have Cp : (rd l3 Aa) < (Ad.length : Int) := of_decide_eq_true Z3; obtain ⟨ad328, e328, Aw⟩ := Kd.at_int (Kd.R_reads' Af.out).2.2 (rd l3 Aa) Co Cp; obtain rfl : ad326 = ad328 := (by injection e328); replace Co := eq_true Co; replace Cp := eq_true Cp; have Cq : 0 ≤ (Aa : Int) := of_decide_eq_true Z3; have Cr : Aa < (Ac.length : Int) := of_decide_eq_true Z3; obtain ⟨ad329, e329, B2⟩ := Kd.at_int (Kd.R_reads' Aj.out).2.2 Aa Cq Cr; obtain rfl : ad327 = ad329 := (by injection e329); replace Cq := eq_true Cq; replace Cr := eq_true Cr; have Dy : 0 ≤ ((rd l3 Aa) : Int) := of_decide_eq_true Z3; have Dz : ((rd l3 Aa) : Int) < ((Ad.length : Int) : Int) := of_decide_eq_true Z3; obtain ⟨Cs, Ei, Dc, Dd, gl38, cl38, HG38⟩ := Kd.R_form Af.out (by omega)
               (first | cases Dc | (injection Dc with ea_ en_ ec_; (first | subst ea_ | (injection ea_ with ea_; subst ea_)); subst ec_; clear en_))
               have D0 := Aside0.mk Dd; have D1 := Aside0.mk HG38; clear Dd gl38 HG38
               (first | simp only [add_plain] at Al | skip)
               (first | simp only [add_plain] at Aw | skip)
               obtain ⟨Ct, Cu⟩ := Kd.R_celln 0 Af.out ((rd l3 Aa) : Int) Dy Dz; replace Dy := eq_true Dy; replace Dz := eq_true Dz; have Cv := Kd.R_putn Af.out ((rd l3 Aa) : Int) (wrap64 ((rd Ad (rd l3 Aa)) - (rd Ac Aa))); rw [← C9.out] at Cv; have HQ42 := Aside0.mk Cv; clear Cv; refine start_ (n := 11) (S := fun w' => w'.cell? ⟨Cs, ((rd l3 Aa)).toNat, none⟩ = some (.int .i64 (rd Ad (rd l3 Aa))) ∧ w'.cell? (ad327.add (Aa).toNat) = some (.int .i64 (rd Ac Aa))) (ds := [10]) #[false, false, false, false, false, false, false, false, false, false, false] Z61 rfl rfl ⟨Aw, B2⟩ (fun hHeld => ?_); refine with_tabW impl_IsAssignment.tab11 impl_IsAssignment.bits11 (fun HT_ HW_ => ?_)
               generalize Cm.drew = Eu at Aj Af Ab HB D1 HQ42 Cu Al Aw B2 Ct hHeld ⊢
               refine puR 0 61 #[true, false, false, false, false, false, false, false, false, false, false] HT_ rfl rfl ?_; refine puR 1 62 #[true, true, false, false, false, false, false, false, false, false, false] HT_ rfl rfl ?_; refine puR 2 63 #[true, true, true, false, false, false, false, false, false, false, false] HT_ rfl rfl ?_; refine puR 4 65 #[true, true, true, false, true, false, false, false, false, false, false] HT_ rfl rfl ?_; refine puR 5 66 #[true, true, true, false, true, true, false, false, false, false, false] HT_ rfl rfl ?_; refine puR 6 67 #[true, true, true, false, true, true, true, false, false, false, false] HT_ rfl rfl ?_; refine taR 3 64 #[true, true, true, true, true, true, true, false, false, false, false] HT_ HW_ hHeld rfl rfl ?_; refine taR 7 68 #[true, true, true, true, true, true, true, true, false, false, false] HT_ HW_ hHeld rfl rfl ?_; refine puR 8 69 #[true, true, true, true, true, true, true, true, true, false, false] HT_ rfl rfl ?_; refine puR 9 70 #[true, true, true, true, true, true, true, true, true, true, false] HT_ rfl rfl ?_; refine last_ (i := 10) (N := none) #[true, true, true, true, true, true, true, true, true, true, true] rfl rfl (one_of HT_.out Z61) (by decide) (fun K hK => ?_); refine skip_ (w1 := ?_) (by rfl) rfl ?_ ?_
               rotate_left
               ·go_simp
                rfl
               refine hK.out _ _ ?_; clear hK K; refine done_ (done_of HT_.out Z61) ?_
               try go_wp2
               go_roundg k2
               case measure => have := HJ4.out; have := HK2.out; omega
               case rel => exact ⟨(C8), (wrap64 (Aa + 1)), Z14, H', ⟨Z194⟩, ⟨by (with_reducible repeat (first | apply Kd.R_alloc | apply Kd.R_drewN | apply Kd.R_drew)); exact Kd.R_mono (Kd.R_far (p := ⟨Cs, ((rd l3 Aa) : Int).toNat, none⟩) (Kd.R_mono Aj.out (fun k_ hk => (⟨hk, fun e_ => hk Z204⟩ : _ ∧ k_ ≠ Cs))) (fun _ hk => hk.2) (.int .i64 (wrap64 ((rd Ad (rd l3 Aa)) - (rd Ac Aa))))) (fun _ hk => hk.1)⟩, ⟨by (with_reducible repeat (first | apply Kd.R_alloc | apply Kd.R_drewN | apply Kd.R_drew)); exact HQ42.out⟩, ⟨by (with_reducible repeat (first | refine blk_drewN ?_ _ | refine blk_drew ?_ | refine blk_alloc ?_ _)); refine blk_far ?_ (by have h_ := Kd.R_ne Af.out Ab.out (by decide); intro e_; exact h_ Z204) _; (with_reducible repeat (first | refine blk_drewN ?_ _ | refine blk_drew ?_ | refine blk_alloc ?_ _)); exact Ab.out⟩, ⟨by repeat (first | (with_reducible first | exact HB.out | apply below_alloc | apply pw_below_drewN | apply below_drew1 | refine below_set ?_ D0.out | refine below_set ?_ Ae.out) | exact HB.out)⟩⟩
             ·rw [if_neg Dj] at H
              exact absurd H (by simp)
            ·rw [if_neg Di] at H
             exact absurd H (by simp)
           ·rw [if_neg Dh] at H
            exact absurd H (by simp)
          ·replace Dg := Bool.eq_false_iff.mpr Dg
           subst Dg
           have H1 : (some (false, true)) = some (r1, r2) := by rw [if_neg (show ¬ (false = true) by decide)] at H; exact H
           clear H; have H := H1; clear H1
           simp only [Option.some.injEq, Prod.mk.injEq] at H
           obtain ⟨rfl, rfl⟩ := H; have Ar : 0 ≤ (Aa : Int) := of_decide_eq_true Z3; have Au : Aa < (l3.length : Int) := of_decide_eq_true Z3; obtain ⟨ad324, e324, Ak⟩ := Kd.at_int Dt.out Aa Ar Au; cases e324; replace Ak := (HB.out.cell (World.block_lt_of_cell? w _ Ak)).trans Ak; replace Ar := eq_true Ar; replace Au := eq_true Au
           try go_wp2
           replace Aj := aM (Kd.R_drew Aj.out); replace Af := aM (Kd.R_drew Af.out); replace Ab := aM (blk_drew Ab.out); replace HB := aM (below_drew1 HB.out); refine start_ (n := 17) (S := fun w' => True) (ds := []) #[false, false, false, false, false, false, false, false, false, false, false, false, false, false, false, false, false] Z61 rfl rfl trivial (fun hHeld => ?_); refine with_tabW impl_IsAssignment.tab9 impl_IsAssignment.bits9 (fun HT_ HW_ => ?_)
           generalize wr.drew = Ew at Aj Af Ab HB hHeld ⊢
           refine puR 0 44 #[true, false, false, false, false, false, false, false, false, false, false, false, false, false, false, false, false] HT_ rfl rfl ?_; refine puR 1 45 #[true, true, false, false, false, false, false, false, false, false, false, false, false, false, false, false, false] HT_ rfl rfl ?_; refine puR 2 46 #[true, true, true, false, false, false, false, false, false, false, false, false, false, false, false, false, false] HT_ rfl rfl ?_; refine puR 3 47 #[true, true, true, true, false, false, false, false, false, false, false, false, false, false, false, false, false] HT_ rfl rfl ?_; refine one_ (i := 4) (N := some 48) #[true, true, true, true, true, false, false, false, false, false, false, false, false, false, false, false, false] rfl rfl (one_of HT_.out Z61) (by decide) (fun K hK => ?_); refine goes_ Try.func59 Z61 rfl #[.int .i64 (rd l3 Aa), .int .i64 0, .int .i64 (wrap64 ((l2.length : Int) - 1))] (by rfl) rfl rfl Z55 ?_; (with_reducible refine (impl_in.calls (rd l3 Aa) 0 (wrap64 ((l2.length : Int) - 1)) false _ Dx.out).mono ?_); rintro e w' ⟨rfl, ⟨nd, rfl⟩⟩; refine ⟨_, rfl, ?_⟩; refine hK.out _ _ trivial (fun hHeld => ?_); clear hK K; refine noR 48 ?_; refine puR 5 49 #[true, true, true, true, true, true, false, false, false, false, false, false, false, false, false, false, false] HT_ rfl rfl ?_; refine puR 6 50 #[true, true, true, true, true, true, true, false, false, false, false, false, false, false, false, false, false] HT_ rfl rfl ?_; refine pure_ (i := 7) (N := some 51) (v := undef) (a' := ?_) #[true, true, true, true, true, true, true, true, false, false, false, false, false, false, false, false, false] rfl rfl (any_of HT_.out Z61) (fun _ _ _ h => h) (Or.inr ⟨by rfl, rfl⟩) ?_ ?_
           rotate_left
           ·exact Z32
           refine pure_ (i := 8) (N := some 52) (v := undef) (a' := ?_) #[true, true, true, true, true, true, true, true, true, false, false, false, false, false, false, false, false] rfl rfl (any_of HT_.out Z61) (fun _ _ _ h => h) (Or.inr ⟨by rfl, rfl⟩) ?_ ?_
           rotate_left
           ·exact Z32
           refine pure_ (i := 9) (N := some 53) (v := undef) (a' := ?_) #[true, true, true, true, true, true, true, true, true, true, false, false, false, false, false, false, false] rfl rfl (any_of HT_.out Z61) (fun _ _ _ h => h) (Or.inr ⟨by rfl, rfl⟩) ?_ ?_
           rotate_left
           ·exact Z32
           refine pure_ (i := 10) (N := some 54) (v := undef) (a' := ?_) #[true, true, true, true, true, true, true, true, true, true, true, false, false, false, false, false, false] rfl rfl (any_of HT_.out Z61) (fun _ _ _ h => h) (Or.inr ⟨by rfl, rfl⟩) ?_ ?_
           rotate_left
           ·exact Z32
           refine pure_ (i := 11) (N := some 55) (v := undef) (a' := ?_) #[true, true, true, true, true, true, true, true, true, true, true, true, false, false, false, false, false] rfl rfl (any_of HT_.out Z61) (fun _ _ _ h => h) (Or.inr ⟨by rfl, rfl⟩) ?_ ?_
           rotate_left
           ·exact Z32
           refine pure_ (i := 12) (N := some 56) (v := undef) (a' := ?_) #[true, true, true, true, true, true, true, true, true, true, true, true, true, false, false, false, false] rfl rfl (any_of HT_.out Z61) (fun _ _ _ h => h) (Or.inr ⟨by rfl, rfl⟩) ?_ ?_
           rotate_left
           ·exact Z32
           refine pure_ (i := 13) (N := some 57) (v := undef) (a' := ?_) #[true, true, true, true, true, true, true, true, true, true, true, true, true, true, false, false, false] rfl rfl (any_of HT_.out Z61) (fun _ _ _ h => h) (Or.inr ⟨by rfl, rfl⟩) ?_ ?_
           rotate_left
           ·exact Z32
           refine pure_ (i := 14) (N := some 58) (v := undef) (a' := ?_) #[true, true, true, true, true, true, true, true, true, true, true, true, true, true, true, false, false] rfl rfl (any_of HT_.out Z61) (fun _ _ _ h => h) (Or.inr ⟨by rfl, rfl⟩) ?_ ?_
           rotate_left
           ·exact Z32
           refine pure_ (i := 15) (N := some 59) (v := undef) (a' := ?_) #[true, true, true, true, true, true, true, true, true, true, true, true, true, true, true, true, false] rfl rfl (any_of HT_.out Z61) (fun _ _ _ h => h) (Or.inr ⟨by rfl, rfl⟩) ?_ ?_
           rotate_left
           ·exact Z32
           refine puR 16 60 #[true, true, true, true, true, true, true, true, true, true, true, true, true, true, true, true, true] HT_ rfl rfl ?_; refine done_ (done_of HT_.out Z61) ?_
           try go_wp2
           go_ret2
           exact ⟨Z10, Z9⟩
         ·rw [if_neg Df] at H
          exact absurd H (by simp)
        ·rw [if_neg De] at H
         exact absurd H (by simp)
       ·rw [if_neg Cx] at H
        have c27b0 : decide (Aa < (l3.length : Int)) = false := decide_eq_false Cx; clear Cx
        simp only [Option.some.injEq, Prod.mk.injEq] at H
        obtain ⟨rfl, rfl⟩ := H
        go_wp2
        go_ret2
        exact ⟨Z10, Z9⟩
    ·rw [if_neg B6] at H
     have c22b0 : ((Ac.length : Int) == (l3.length : Int)) = false := beq_eq_false_iff_ne.mpr B6; have c22b1 : ((Ac.length : Int) != (l3.length : Int)) = true := bne_iff_ne.mpr B6
     have c22b2 : (Ac.length == l3.length) = false := by first | simpa using B6 | (simp at B6 ⊢; omega)
     simp only [Option.some.injEq, Prod.mk.injEq] at H
     obtain ⟨rfl, rfl⟩ := H; obtain ⟨Dk, Dl, Dm⟩ := bz3 Ab; obtain ⟨Dn, Dp, Dq⟩ := fz3 Ab
     go_wp2_with (first | ((with_reducible refine gate_callee (f := 54) rfl ?_); refine glE (some 29) Try.func54 #[.agg #[.int .i64 Ah, .int .i64 Ai, .slice Ap Ag.length Aq], .int .i64 a1] ?_; (with_reducible refine (impl_Chart_sizesOf.calls Ck Ah Ai _ _ Ag a1 Ac _ ?side1 ?side2 Ea.out).mono ?_); (case side1 => exact Z91); (case side2 => exact Ay.out); rintro e Ex ⟨Dv, rfl, B5, hb⟩; refine ⟨_, rfl, ?_⟩; have Am := aM (Kd.R_lower B5 (below_size Z9)); replace Ab := bkB Ab hb; replace HB := hbS Z9 hb; (try clear hb); (try clear B5)) | ((with_reducible refine gate_callee (f := 58) rfl ?_); refine glE (some 31) Try.func58 #[.slice A2 l2.length c2] ?_; (with_reducible refine (slices_Clone_int.calls _ _ l2 Ba _ ?side1 ?side2 Eb.out).mono ?_); (case side1 => exact Z142); (case side2 => exact Ds.out); rintro e Ey ⟨Cn, rfl, B5, hb⟩; refine ⟨_, rfl, ?_⟩; have Cl := aM (Kd.R_lower (Kd.R_new' B5 (Kd.R_lt Z112)) (below_size Z9)); replace Am := aM (Kd.R_elder' Z112 (Kd.R_base B5) hb); replace Ab := bkB Ab hb; replace HB := hbS Z9 hb; (try clear hb); (try clear B5); obtain ⟨Ej, Ek, D2⟩ := Kd.R_slice Am.out; subst D2))
     go_ret2
     exact ⟨Z10, Z9⟩
def spec_l1Has.l0 : Nat → List Int → Int → Int → Option (Bool)
 | 0, _, _, _ => none
 | k + 1, x0, x1, x5 => if x5 < (x0.length : Int) then (if 0 ≤ x5 then (if (rd x0 x5) = x1 then (some true) else (spec_l1Has.l0 k x0 x1 (wrap64 (x5 + 1)))) else (none)) else (some false)
def spec_l1Has.f (k : Nat) (l0 : List Int) (a1 : Int) : Option (Bool) := spec_l1Has.l0 k l0 a1 0
theorem spec_l1Has.calls (k : Nat) (A0 : Option Addr) (c0 : Nat) (l0 : List Int) (a1 : Int) (r : Bool) (w : World) (Ae : Kd.C (Kd.int .i64) w A0 l0.length l0) (Af : l0.length ≤ c0) (h : spec_l1Has.f k l0 a1 = some r) :
  Calls Try.prog 67 #[.slice A0 l0.length c0, .int .i64 a1] w fun e w' => e = .returned (.bool r) ∧ Drawn0 w w' := by
 have Ag := Aside0.mk Ae; have Ah := Aside0.mk Af; clear Ae Af; have H : (spec_l1Has.l0 k l0 a1 0) = some r := h; clear h; have H' := Aside0.mk H; clear H
 go_enter Try.func67, Try.ntmps67
 go_wp2
 go_loopg [5] k (fun kq v5 w' => ∃ (Aa : Int), v5 = .int .i64 Aa ∧ Aside0 (spec_l1Has.l0 kq l0 a1 Aa = some r) ∧ Aside0 (kq ≤ k) ∧ Drawn0 w w')
 case atStart => exact ⟨(0), Z14, H', ⟨Nat.le_refl _⟩, Z44⟩
 case round =>
  clear H'; (try clear p2); obtain ⟨Aa, rfl, HA, HK1, ⟨m1, rfl⟩⟩ := hrel; cases gk with
  | zero => exact absurd HA.out (by simp [spec_l1Has.l0])
  | succ k1 =>
   have H := HA.out; clear HA
   simp only [spec_l1Has.l0] at H
   by_cases c3 : Aa < (l0.length : Int)
   ·rw [if_pos c3] at H
    have c3b0 : decide (Aa < (l0.length : Int)) = true := decide_eq_true c3; clear c3
    by_cases c4 : 0 ≤ Aa
    ·rw [if_pos c4] at H
     have c4b0 : decide (0 ≤ Aa) = true := decide_eq_true c4; clear c4
     by_cases c5 : (rd l0 Aa) = a1
     ·rw [if_pos c5] at H
      have c5b0 : ((rd l0 Aa) == a1) = true := beq_iff_eq.mpr c5; have c5b1 : ((rd l0 Aa) != a1) = false := bne_eq_false_iff_eq.mpr c5; clear c5; obtain rfl := Option.some.inj H; have Ab : 0 ≤ (Aa : Int) := of_decide_eq_true Z3; have Ac : Aa < (l0.length : Int) := of_decide_eq_true Z3; obtain ⟨ad331, e331, Ad⟩ := Kd.at_int Ag.out Aa Ab Ac; cases e331; replace Ab := eq_true Ab; replace Ac := eq_true Ac
      go_wp2
      go_ret
      exact ⟨Z14, Z44⟩
     ·rw [if_neg c5] at H
      have c5b0 : ((rd l0 Aa) == a1) = false := beq_eq_false_iff_ne.mpr c5; have c5b1 : ((rd l0 Aa) != a1) = true := bne_iff_ne.mpr c5; have H' := Aside0.mk H; clear H; have Ab : 0 ≤ (Aa : Int) := of_decide_eq_true Z3; have Ac : Aa < (l0.length : Int) := of_decide_eq_true Z3; obtain ⟨ad331, e331, Ad⟩ := Kd.at_int Ag.out Aa Ab Ac; cases e331; replace Ab := eq_true Ab; replace Ac := eq_true Ac
      go_wp2
      go_roundg k1
      case measure => have := HK1.out; omega
      case rel => exact ⟨(wrap64 (Aa + 1)), Z14, H', ⟨Z118⟩, Z44⟩
    ·rw [if_neg c4] at H
     exact absurd H (by simp)
   ·rw [if_neg c3] at H
    have c3b0 : decide (Aa < (l0.length : Int)) = false := decide_eq_false c3; clear c3; obtain rfl := Option.some.inj H
    go_wp2
    go_ret
    exact ⟨Z14, Z44⟩
def spec_l12Different.l0 : Nat → List Int → Int → Int → Option (Int)
 | 0, _, _, _ => none
 | k + 1, x0, x3, x4 => if x4 < (x0.length : Int) then (if 0 ≤ x4 then (if x4 ≤ (x0.length : Int) then ((spec_l1Has.f k (x0.take (x4 : Int).toNat) (rd x0 x4)).bind fun t334 => (if t334 = true then (spec_l12Different.l0 k x0 x3 (wrap64 (x4 + 1))) else (spec_l12Different.l0 k x0 (wrap64 (x3 + 1)) (wrap64 (x4 + 1))))) else (none)) else (none)) else (some x3)
def spec_l12Different.f (k : Nat) (l0 : List Int) : Option (Int) := spec_l12Different.l0 k l0 0 0
theorem spec_l12Different.calls (k : Nat) (A0 : Option Addr) (c0 : Nat) (l0 : List Int) (r : Int) (w : World) (Aj : Kd.C (Kd.int .i64) w A0 l0.length l0) (Ak : l0.length ≤ c0) (h : spec_l12Different.f k l0 = some r) :
  Calls Try.prog 82 #[.slice A0 l0.length c0] w fun e w' => e = .returned (.int .i64 r) ∧ Drawn0 w w' := by
 have Ai := Aside0.mk Aj; have Al := Aside0.mk Ak; clear Aj Ak; have H : (spec_l12Different.l0 k l0 0 0) = some r := h; clear h; have H' := Aside0.mk H; clear H
 go_enter Try.func82, Try.ntmps82
 go_wp2
 repeat (go_quiet (fail); try go_wp2)
 go_loopg [3, 4] k (fun kq v3 v4 w' => ∃ (Ad : Int) (Aa : Int), v3 = .int .i64 Ad ∧ v4 = .int .i64 Aa ∧ Aside0 (spec_l12Different.l0 kq l0 Ad Aa = some r) ∧ Aside0 (kq ≤ k) ∧ Drawn0 w w')
 case atStart => exact ⟨(0), (0), Z14, Z14, H', ⟨Nat.le_refl _⟩, Z44⟩
 case round =>
  clear H'; obtain ⟨Ad, Aa, rfl, rfl, HA, HK1, ⟨m1, rfl⟩⟩ := hrel; cases gk with
  | zero => exact absurd HA.out (by simp [spec_l12Different.l0])
  | succ k1 =>
   have H := HA.out; clear HA
   simp only [spec_l12Different.l0] at H
   by_cases c2 : Aa < (l0.length : Int)
   ·rw [if_pos c2] at H
    have c2b0 : decide (Aa < (l0.length : Int)) = true := decide_eq_true c2; clear c2
    by_cases c3 : 0 ≤ Aa
    ·rw [if_pos c3] at H
     have c3b0 := eq_true c3; have c3b1 : decide (0 ≤ Aa) = true := decide_eq_true c3; clear c3
     by_cases c4 : Aa ≤ (l0.length : Int)
     ·rw [if_pos c4] at H
      have c4b0 := eq_true c4; have c4b1 : decide (Aa ≤ (l0.length : Int)) = true := decide_eq_true c4; clear c4; replace H := Option.bind_eq_some_iff.mp H; obtain ⟨Ah, Am, H⟩ := H; replace H : (if Ah = true then (spec_l12Different.l0 k1 l0 Ad (wrap64 (Aa + 1))) else (spec_l12Different.l0 k1 l0 (wrap64 (Ad + 1)) (wrap64 (Aa + 1)))) = some r := H; have A5 := Aside0.mk Am; clear Am
      by_cases c6 : Ah = true
      ·subst c6
       have H1 : (spec_l12Different.l0 k1 l0 Ad (wrap64 (Aa + 1))) = some r := by rw [if_pos rfl] at H; exact H
       clear H; have H := H1; clear H1; have H' := Aside0.mk H; clear H; obtain ⟨i07, hi07, _, hsz7, _⟩ := info_parts info3; obtain ⟨hcut7, hA7, hC7⟩ := print_take_of (P := Try.prog) (Value.int .i64) 0 22 3 .i64 Try.underlying22 hi07 hsz7 A0 c0 l0 Aa (of_decide_eq_true Z3) (of_decide_eq_true Z3) Al.out; have HTK7 : Aside0 (Aa.toNat = (l0.take Aa.toNat).length) := ⟨by have h1_ : 0 ≤ Aa := of_decide_eq_true (by assumption); have h2_ : Aa ≤ (l0.length : Int) := of_decide_eq_true (by assumption); rw [List.length_take]; omega⟩; have Ab := aM (Kd.C_of_reads (h1 := fun _ => rfl) (hA7 _ (Kd.reads_of_C Ai.out))); have Ac := Aside0.mk hC7; clear hA7 hC7 hi07 hsz7; have Ae : 0 ≤ (Aa : Int) := of_decide_eq_true Z3; have Af : Aa < (l0.length : Int) := of_decide_eq_true Z3; obtain ⟨ad333, e333, Ag⟩ := Kd.at_int Ai.out Aa Ae Af; cases e333; replace Ae := eq_true Ae; replace Af := eq_true Af
       go_wp2_with (first | (go_at_call 67; (with_reducible refine (spec_l1Has.calls k1 _ _ (l0.take (Aa : Int).toNat) (rd l0 Aa) true _ ?side1 ?side2 A5.out).mono ?_); (case side1 => exact Z87); (case side2 => exact Ac.out); rintro e w' ⟨rfl, ⟨nd, rfl⟩⟩; (try first | exact ⟨rfl, _, World.drewN_drewN _ _ _⟩ | exact ⟨rfl, _, Eq.trans (World.drewN_drewN _ _ _) (congrArg (World.drewN _) (Nat.add_assoc _ _ _))⟩)))
       repeat (go_quiet (first | (go_at_call 67; (try rw [HTK7.out]); (with_reducible refine (spec_l1Has.calls k1 _ _ (l0.take (Aa : Int).toNat) (rd l0 Aa) true _ ?side1 ?side2 A5.out).mono ?_); (case side1 => exact Z87); (case side2 => exact Ac.out); rintro e w' ⟨rfl, ⟨nd, rfl⟩⟩; (try first | exact ⟨rfl, _, World.drewN_drewN _ _ _⟩ | exact ⟨rfl, _, Eq.trans (World.drewN_drewN _ _ _) (congrArg (World.drewN _) (Nat.add_assoc _ _ _))⟩))); try go_wp2_with (first | (go_at_call 67; (try rw [HTK7.out]); (with_reducible refine (spec_l1Has.calls k1 _ _ (l0.take (Aa : Int).toNat) (rd l0 Aa) true _ ?side1 ?side2 A5.out).mono ?_); (case side1 => exact Z87); (case side2 => exact Ac.out); rintro e w' ⟨rfl, ⟨nd, rfl⟩⟩; (try first | exact ⟨rfl, _, World.drewN_drewN _ _ _⟩ | exact ⟨rfl, _, Eq.trans (World.drewN_drewN _ _ _) (congrArg (World.drewN _) (Nat.add_assoc _ _ _))⟩))))
       go_roundg k1
       case measure => have := HK1.out; omega
       case rel => exact ⟨(Ad), (wrap64 (Aa + 1)), Z14, Z14, H', ⟨Z118⟩, Z44⟩
      ·replace c6 := Bool.eq_false_iff.mpr c6
       subst c6
       have H1 : (spec_l12Different.l0 k1 l0 (wrap64 (Ad + 1)) (wrap64 (Aa + 1))) = some r := by rw [if_neg (show ¬ (false = true) by decide)] at H; exact H
       clear H; have H := H1; clear H1; have H' := Aside0.mk H; clear H; obtain ⟨i08, hi08, _, hsz8, _⟩ := info_parts info3; obtain ⟨hcut8, hA8, hC8⟩ := print_take_of (P := Try.prog) (Value.int .i64) 0 22 3 .i64 Try.underlying22 hi08 hsz8 A0 c0 l0 Aa (of_decide_eq_true Z3) (of_decide_eq_true Z3) Al.out; have HTK8 : Aside0 (Aa.toNat = (l0.take Aa.toNat).length) := ⟨by have h1_ : 0 ≤ Aa := of_decide_eq_true (by assumption); have h2_ : Aa ≤ (l0.length : Int) := of_decide_eq_true (by assumption); rw [List.length_take]; omega⟩; have Ab := aM (Kd.C_of_reads (h1 := fun _ => rfl) (hA8 _ (Kd.reads_of_C Ai.out))); have Ac := Aside0.mk hC8; clear hA8 hC8 hi08 hsz8; have Ae : 0 ≤ (Aa : Int) := of_decide_eq_true Z3; have Af : Aa < (l0.length : Int) := of_decide_eq_true Z3; obtain ⟨ad333, e333, Ag⟩ := Kd.at_int Ai.out Aa Ae Af; cases e333; replace Ae := eq_true Ae; replace Af := eq_true Af
       go_wp2_with (first | (go_at_call 67; (with_reducible refine (spec_l1Has.calls k1 _ _ (l0.take (Aa : Int).toNat) (rd l0 Aa) false _ ?side1 ?side2 A5.out).mono ?_); (case side1 => exact Z87); (case side2 => exact Ac.out); rintro e w' ⟨rfl, ⟨nd, rfl⟩⟩; (try first | exact ⟨rfl, _, World.drewN_drewN _ _ _⟩ | exact ⟨rfl, _, Eq.trans (World.drewN_drewN _ _ _) (congrArg (World.drewN _) (Nat.add_assoc _ _ _))⟩)))
       repeat (go_quiet (first | (go_at_call 67; (try rw [HTK8.out]); (with_reducible refine (spec_l1Has.calls k1 _ _ (l0.take (Aa : Int).toNat) (rd l0 Aa) false _ ?side1 ?side2 A5.out).mono ?_); (case side1 => exact Z87); (case side2 => exact Ac.out); rintro e w' ⟨rfl, ⟨nd, rfl⟩⟩; (try first | exact ⟨rfl, _, World.drewN_drewN _ _ _⟩ | exact ⟨rfl, _, Eq.trans (World.drewN_drewN _ _ _) (congrArg (World.drewN _) (Nat.add_assoc _ _ _))⟩))); try go_wp2_with (first | (go_at_call 67; (try rw [HTK8.out]); (with_reducible refine (spec_l1Has.calls k1 _ _ (l0.take (Aa : Int).toNat) (rd l0 Aa) false _ ?side1 ?side2 A5.out).mono ?_); (case side1 => exact Z87); (case side2 => exact Ac.out); rintro e w' ⟨rfl, ⟨nd, rfl⟩⟩; (try first | exact ⟨rfl, _, World.drewN_drewN _ _ _⟩ | exact ⟨rfl, _, Eq.trans (World.drewN_drewN _ _ _) (congrArg (World.drewN _) (Nat.add_assoc _ _ _))⟩))))
       go_roundg k1
       case measure => have := HK1.out; omega
       case rel => exact ⟨(wrap64 (Ad + 1)), (wrap64 (Aa + 1)), Z14, Z14, H', ⟨Z118⟩, Z44⟩
     ·rw [if_neg c4] at H
      exact absurd H (by simp)
    ·rw [if_neg c3] at H
     exact absurd H (by simp)
   ·rw [if_neg c2] at H
    have c2b0 : decide (Aa < (l0.length : Int)) = false := decide_eq_false c2; clear c2; obtain rfl := Option.some.inj H
    go_wp2
    repeat (go_quiet (fail); try go_wp2)
    go_ret
    exact ⟨Z14, Z44⟩
def spec_l1Own.f (l0 : List Int) : Option (List Int) := (some (([] : List Int) : List Int)).bind fun y335 => (if y335.length + l0.length < 17592186044416 then (some (y335 ++ l0)) else (none))
theorem spec_l1Own.calls (A0 : Option Addr) (c0 : Nat) (l0 : List Int) (r : List Int) (w : World) (Ak : Kd.C (Kd.int .i64) w A0 l0.length l0) (Al : l0.length ≤ c0) (h : spec_l1Own.f l0 = some r) :
  Calls Try.prog 83 #[.slice A0 l0.length c0] w fun e w' => ∃ v0_ : Value, e = .returned (v0_) ∧ Kd.R (Kd.int .i64) 3 w' w.heap.size (fun _ => True) v0_ r ∧ Below w.heap.size w w' := by
 have Am := Aside0.mk Ak; have Ao := Aside0.mk Al; clear Ak Al; have HB := aM (Below.refl w.heap.size w); have H : ((some (([] : List Int) : List Int)).bind fun Aa => (if Aa.length + l0.length < 17592186044416 then (some (Aa ++ l0)) else (none))) = some r := h; clear h; obtain ⟨Aa, Ab⟩ : ∃ y_ : List Int, y_ = (([] : List Int)) := ⟨_, rfl⟩
 replace H : (if Aa.length + l0.length < 17592186044416 then (some (Aa ++ l0)) else (none)) = some r := by first | (rw [Ab]; with_reducible exact H) | (have H2_ := (Option.bind_some _ _).symm.trans H; rw [Ab]; with_reducible exact H2_) | (have H2_ := (Option.bind_some _ _).symm.trans H; with_reducible exact H2_) | with_reducible exact H | (rw [Ab]; exact H) | exact H
 have Ad := Aside0.mk Ab; clear Ab
 by_cases c2 : Aa.length + l0.length < 17592186044416
 ·rw [if_pos c2] at H
  have LMc2 := Aside0.mk c2; clear c2; obtain ⟨Ai, Ac⟩ : ∃ y_ : List Int, y_ = (Aa ++ l0) := ⟨_, rfl⟩
  replace H : (some Ai) = some r := by first | (rw [Ac]; with_reducible exact H) | (have H2_ := (Option.bind_some _ _).symm.trans H; rw [Ac]; with_reducible exact H2_) | (have H2_ := (Option.bind_some _ _).symm.trans H; with_reducible exact H2_) | with_reducible exact H | (rw [Ac]; exact H) | exact H
  have Af := Aside0.mk Ac; clear Ac; obtain rfl := Option.some.inj H
  go_enter Try.func83, Try.ntmps83
  go_wp2_with (first | ((with_reducible refine gate_dst (N := 3) rfl ?_); refine Kd.R_lit (Kd.int .i64) _ 3 ?hg (N := 3) ?hd (xs := ([] : List Int)) (inner := []) (ok := fun _ => True) (okp := fun _ => True) ?hr ?hp (fun _ hk => hk) trivial (Below.refl _ _) (Nat.le_refl _) (by simp) ?_; (case hd => rfl); (case hg => rfl); (case hr => first | (go_simp; done) | (go_simp; rfl)); (case hp => exact (Reps.none _ _)); intro Aj w3 Ag hb hg_ hnew_; clear hg_ hnew_; (first | rw [← Ad.out] at Ag | (simp only [Int.reduceToNat] at Ag; rw [← Ad.out] at Ag)); have Ae := aM (Kd.R_lower Ag (below_size Z0)); replace HB := hbS Z0 hb; clear hb Ag) | ((with_reducible refine gate_builtin (b := .append) (xs := #[.tmp 3, .tmp 4]) rfl ?_); at_builtin; refine Kd.R_append_rows (Kd.int .i64) (w0 := w) w.heap.size rfl (.tmp 3) (.tmp 4) 22 3 (.int .i64 0) 8 rfl Try.underlying22 info3 rfl (by decide) (by omega) Aj Aa l0 _ _ _ (fun _ => True) (fun _ => False) rfl rfl ?aO ?aR (fun _ _ h => h) (fun _ h => h.elim) ?aF ?aB ?aS ?aL ?_; (case aR => repeat (first | exact (Kd.C_below Am.out HB.out) | (with_reducible refine Kd.C_alloc ?_ _) | (with_reducible refine Kd.C_drewN ?_ _) | (with_reducible refine Kd.C_drew ?_))); (case aB => exact Z0); (case aF => exact (fun _ _ => trivial)); (case aO => exact Z58); (case aS => exact (below_size Z0)); (case aL => have := LMc2.out; omega); intro An w5 ho hb hg hat; rw [← Af.out] at ho; replace HB := aM (hb); have Ah := aM (ho); clear Ae; clear ho hb hg hat))
  go_ret
  exact ⟨_, Z10, Z109, Z0⟩
 ·rw [if_neg c2] at H
  exact absurd H (by simp)
end Go.Proofs.Ytaadbpibmlnncaa.H
