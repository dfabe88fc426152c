/- The plain law of FnSkills: what the program's functions compute is what the reference's compute. No program and no memory in it. -/
import Derived.Test.YthalifhbjioaeaaDoorZ10Hx38
import Derived.Test.YthalifhbjioaeaaDoorZ10Lps
namespace Go.Proofs.YthalifhbjioaeaaDoor.Pure
open Go.RowKit Go.Proofs.YthalifhbjioaeaaDoorW.PrintWords Go.Proofs.YthalifhbjioaeaaDoorW.PrintLast Go.Proofs.YthalifhbjioaeaaDoor.H
set_option linter.unusedVariables false
set_option linter.unusedSimpArgs false
theorem l1In_eq (a b c : Int) : spec_l1In.f a b c = some (rng a b c) := spec_l1In.eq a b c
theorem in_eq (a b c : Int) : impl_in.f a b c = some (rng a b c) := impl_in.eq a b c
theorem word_at (s : ByteArray) (i : Nat) (hi : i < s.size) : bt s (i : Int) = (((s.data.toList)[i]'(by simpa using hi)).toNat : Int) := by
  unfold bt
  rw [dif_pos (by simpa using hi)]
  rfl
theorem l2Word_ev (s : ByteArray) (hs : s.size ≤ 2000000) : Ev (fun k => spec_l2Word.f k s) (isWordB s) := by
  unfold spec_l2Word.f
  have e : isWordB s = ((List.range s.size).all (fun i => decide (97 ≤ bt s (i : Int)) && decide (bt s (i : Int) ≤ 122)) && rng (s.size : Int) 1 10) := by
    unfold isWordB
    rw [Bool.and_comm]
    congr 1
    rw [Bool.eq_iff_iff, all_range, List.all_eq_true]
    constructor
    · intro h i hi
      have := h _ (List.getElem_mem (by simpa using hi : i < s.data.toList.length))
      rw [word_at s i hi]
      rw [Bool.and_eq_true, decide_eq_true_iff, decide_eq_true_iff] at this ⊢
      omega
    · intro h b hb
      obtain ⟨i, hi, rfl⟩ := List.getElem_of_mem hb
      have hi' : i < s.size := by simpa using hi
      have := h i hi'
      rw [word_at s i hi'] at this
      rw [Bool.and_eq_true, decide_eq_true_iff, decide_eq_true_iff] at this ⊢
      omega
  rw [e]
  refine Ev.scan (fun k i => spec_l2Word.l0 k s i) s.size _ _ (Ev.step (f := fun _ => some _) (fun k => ?_) (Ev.now _)) ?_ ?_
  · rw [spec_l2Word.l0, if_neg (by omega), l1In_eq]
    rfl
  · intro i hi hg
    refine Ev.step (f := fun _ => some false) (fun k => ?_) (Ev.now _)
    rw [spec_l2Word.l0, if_pos (by omega), if_pos (by omega)]
    by_cases c : bt s (i : Int) < 97
    · rw [if_pos c]
    · rw [if_neg c, if_pos]
      rw [Bool.and_eq_false_iff, decide_eq_false_iff_not, decide_eq_false_iff_not] at hg
      omega
  · intro i r hi hg hr
    refine Ev.step (fun k => ?_) hr
    rw [Bool.and_eq_true, decide_eq_true_iff, decide_eq_true_iff] at hg
    rw [spec_l2Word.l0, if_pos (by omega), if_pos (by omega), if_neg (by omega), if_neg (by omega), wrap_id _ (by omega) (by omega)]
abbrev WV := S26
theorem l11One_ev (x : WV) (hs : x.f1.size ≤ 2000000) : Ev (fun k => spec_l11One.f k x.f0 x.f1 x.f2 x.f3 x.f4) (okWv x) := by
  unfold spec_l11One.f spec_l11Skills.f okWv
  simp only [l1In_eq, Option.bind_some]
  cases rng x.f0 1 99 with
  | false => exact Ev.now _
  | true =>
    simp only [if_true, Bool.true_and]
    refine Ev.bind (l2Word_ev x.f1 hs) ?_
    cases isWordB x.f1 with
    | false => exact Ev.now _
    | true =>
      simp only [if_true, Bool.true_and]
      cases rng x.f2 1 15 <;> cases rng x.f3 100 12000 <;> exact Ev.now _
theorem seats_ev (l : List WV) (a : Int) (hl : l.length ≤ 2000000) : Ev (fun k => spec_l11Seats.f k l a) (sitN l a) := by
  unfold spec_l11Seats.f
  obtain ⟨r, hr, h⟩ := Ev.loopE (fun k i (s : Int) => spec_l11Seats.l0 k l a s i) l.length (fun i s => s = (((l.take i).filter fun x => decide (x.f4 = a)).length : Int)) (fun r => r = sitN l a)
    (fun s hs => ⟨s, by rw [hs, List.take_length]; rfl, Ev.step (f := fun _ => some s) (fun k => by rw [spec_l11Seats.l0, if_neg (by omega)]) (Ev.now _)⟩)
    (fun i s hi hs => by
      have hle : ((l.take i).filter fun x => decide (x.f4 = a)).length ≤ (l.take i).length := List.length_filter_le _ _
      have hle2 : (l.take i).length ≤ i := List.length_take_le _ _
      have et : l.take (i + 1) = l.take i ++ [l[i]] := List.take_succ_eq_append_getElem hi
      have e0 : rd_T26 l (i : Int) = l[i] := by
        show l.getD ((i : Int)).toNat z26 = l[i]
        rw [Int.toNat_natCast, List.getD_eq_getElem?_getD, List.getElem?_eq_getElem hi]
        rfl
      by_cases c : l[i].f4 = a
      · refine ⟨s + 1, by rw [et, List.filter_append, List.length_append, hs]; simp [c], fun r h => Ev.step (fun k => ?_) h⟩
        rw [spec_l11Seats.l0, if_pos (by omega), if_pos (by omega), e0, if_pos c, wrap_id (s + 1) (by omega) (by omega), wrap_id _ (by omega) (by omega)]
      · refine ⟨s, by rw [et, List.filter_append, List.length_append, hs]; simp [c], fun r h => Ev.step (fun k => ?_) h⟩
        rw [spec_l11Seats.l0, if_pos (by omega), if_pos (by omega), e0, if_neg c, wrap_id _ (by omega) (by omega)]) 0 (by simp)
  subst hr
  exact h
def okWvs (l : List WV) : Bool := decide ((l.length : Int) ≤ 8) && (l.all okWv && (asc idWv l && l.all (seatOk l)))
theorem AreWeavers_eq (l : List WV) : impl_AreWeavers.f l = some (okWvs l) := rfl
theorem l11Good_ev (l : List WV) (hl : l.length ≤ 2000000) (hz : ∀ x ∈ l, x.f1.size ≤ 1048576) : Ev (fun k => spec_l11Good.f k l) (okWvs l) := by
  unfold spec_l11Good.f
  have e : okWvs l = ((List.range l.length).all (fun i => okWv (l.getD i z26) && ((decide (i = 0) || decide ((l.getD (i - 1) z26).f0 < (l.getD i z26).f0)) && seatOk l (l.getD i z26))) && decide ((l.length : Int) ≤ 8)) := by
    unfold okWvs
    rw [Bool.and_comm]
    congr 1
    rw [Bool.eq_iff_iff, all_range, Bool.and_eq_true, Bool.and_eq_true, all_getD z26, all_getD z26, asc_iff idWv z26]
    constructor
    · rintro ⟨h1, h2, h3⟩ i hi
      rw [Bool.and_eq_true, Bool.and_eq_true, Bool.or_eq_true, decide_eq_true_iff, decide_eq_true_iff]
      refine ⟨h1 i hi, ?_, h3 i hi⟩
      by_cases e : i = 0
      · exact .inl e
      · have := h2 (i - 1) (by omega)
        rw [show i - 1 + 1 = i by omega] at this
        exact .inr this
    · intro h
      refine ⟨fun i hi => ?_, fun i hi => ?_, fun i hi => ?_⟩
      · have := h i hi
        rw [Bool.and_eq_true] at this
        exact this.1
      · have := h (i + 1) hi
        rw [Bool.and_eq_true, Bool.and_eq_true, Bool.or_eq_true, decide_eq_true_iff, decide_eq_true_iff] at this
        rcases this.2.1 with h | h
        · omega
        · exact h
      · have := h i hi
        rw [Bool.and_eq_true, Bool.and_eq_true] at this
        exact this.2.2
  rw [e]
  have hone : ∀ i : Nat, i < l.length → Ev (fun k => spec_l11One.f k (l.getD i z26).f0 (l.getD i z26).f1 (l.getD i z26).f2 (l.getD i z26).f3 (l.getD i z26).f4) (okWv (l.getD i z26)) := fun i hi => l11One_ev _ (by
    have : l.getD i z26 ∈ l := by
      rw [List.getD_eq_getElem?_getD, List.getElem?_eq_getElem hi]
      exact List.getElem_mem hi
    have := hz _ this
    omega)
  have round : ∀ (i : Nat) (r : Bool), i < l.length → (∀ b, b = (okWv (l.getD i z26) && ((decide (i = 0) || decide ((l.getD (i - 1) z26).f0 < (l.getD i z26).f0)) && seatOk l (l.getD i z26))) → (b = true → Ev (fun k => spec_l11Good.l0 k l ((i : Int) + 1)) r) → (b = false → r = false) → Ev (fun k => spec_l11Good.l0 k l (i : Int)) r) := by
    intro i r hi b hb ht hf
    have h1 := hone i hi
    have e0 : rd_T26 l (i : Int) = l.getD i z26 := rfl
    have ep : 0 < i → rd_T26 l ((i : Int) - 1) = l.getD (i - 1) z26 := fun h => by
      show l.getD ((i : Int) - 1).toNat z26 = _
      rw [show ((i : Int) - 1).toNat = i - 1 by omega]
    obtain ⟨x, hx⟩ : ∃ x, x = l.getD i z26 := ⟨_, rfl⟩
    rw [← hx] at h1 e0 hb
    have w1 : wrap64 ((i : Int) - 1) = (i : Int) - 1 := wrap_id _ (by omega) (by omega)
    have w2 : wrap64 ((i : Int) + 1) = (i : Int) + 1 := wrap_id _ (by omega) (by omega)
    refine Ev.step (fun k => by rw [spec_l11Good.l0, if_pos (by omega), if_pos (by omega), e0, w1, w2]) (Ev.bind h1 ?_)
    cases ho : okWv x with
    | false =>
      rw [ho, Bool.false_and] at hb
      rw [hf hb]
      simp only [Bool.false_eq_true, if_false]
      exact Ev.now _
    | true =>
      rw [ho, Bool.true_and] at hb
      simp only [if_true]
      have hf4 : 0 ≤ x.f4 := by
        unfold okWv at ho
        simp only [Bool.and_eq_true, rng_iff] at ho
        omega
      have tail : (b = true → Ev (fun k => spec_l11Good.l0 k l ((i : Int) + 1)) r) → (seatOk l x = b) → Ev (fun k => if x.f4 > 0 then (spec_l11Seats.f k l x.f4).bind fun t => if t > 3 then some false else spec_l11Good.l0 k l ((i : Int) + 1) else spec_l11Good.l0 k l ((i : Int) + 1)) r := by
        intro ht hs
        by_cases c : x.f4 > 0
        · simp only [if_pos c]
          refine Ev.bind (seats_ev l x.f4 hl) ?_
          by_cases c3 : sitN l x.f4 > 3
          · simp only [if_pos c3]
            rw [hf (by rw [← hs]; unfold seatOk; rw [decide_eq_false (by omega), decide_eq_false (by omega)]; rfl)]
            exact Ev.now _
          · simp only [if_neg c3]
            exact ht (by rw [← hs]; unfold seatOk; rw [decide_eq_true (show sitN l x.f4 ≤ 3 by omega)]; simp)
        · simp only [if_neg c]
          exact ht (by rw [← hs]; unfold seatOk; rw [decide_eq_true (show x.f4 = 0 by omega)]; rfl)
      by_cases ci : i = 0
      · simp only [if_neg (show ¬ (i : Int) > 0 by omega)]
        exact tail ht (by rw [hb, decide_eq_true ci]; simp)
      · simp only [if_pos (show (i : Int) > 0 by omega), if_pos (show 0 ≤ (i : Int) - 1 by omega), if_pos (show (i : Int) - 1 < (l.length : Int) by omega), ep (by omega)]
        rw [decide_eq_false ci, Bool.false_or] at hb
        by_cases cc : (l.getD (i - 1) z26).f0 ≥ x.f0
        · simp only [if_pos cc]
          rw [hf (by rw [hb, decide_eq_false (by omega)]; rfl)]
          exact Ev.now _
        · simp only [if_neg cc]
          exact tail ht (by rw [hb, decide_eq_true (by omega)]; simp)
  refine Ev.scan (fun k i => spec_l11Good.l0 k l i) l.length _ _ (Ev.step (f := fun _ => some _) (fun k => by rw [spec_l11Good.l0, if_neg (by omega)]) (Ev.now _)) ?_ ?_
  · intro i hi hg
    exact round i false hi _ rfl (fun h => by rw [hg] at h; cases h) (fun _ => rfl)
  · intro i r hi hg hr
    exact round i r hi _ rfl (fun _ => hr) (fun h => by rw [hg] at h; cases h)
theorem okWvs_iff (l : List WV) (h : okWvs l = true) : l.length ≤ 8 ∧ ∀ x ∈ l, (1 ≤ x.f0 ∧ x.f0 ≤ 99) ∧ (1 ≤ x.f2 ∧ x.f2 ≤ 15) ∧ (100 ≤ x.f3 ∧ x.f3 ≤ 12000) ∧ 0 ≤ x.f4 ∧ x.f4 ≤ 99 := by
  unfold okWvs at h
  rw [Bool.and_eq_true, Bool.and_eq_true, decide_eq_true_iff] at h
  refine ⟨by omega, fun x hx => ?_⟩
  have := List.all_eq_true.1 h.2.1 x hx
  unfold okWv at this
  simp only [Bool.and_eq_true, rng_iff] at this
  exact ⟨this.1, this.2.2.1, this.2.2.2.1, this.2.2.2.2⟩
theorem getD_mem {α : Type} (z : α) (l : List α) (i : Nat) (hi : i < l.length) : l.getD i z ∈ l := by
  rw [List.getD_eq_getElem?_getD, List.getElem?_eq_getElem hi]
  exact List.getElem_mem hi
def orI (a b : Int) : Int := Go.bits .or .i64 a b
def cutI (k b : Int) : Int := Go.bits .and .i64 k (15 - b)
def allOf (s : List WV) (a : Int) : Int := s.foldl (fun a x => orI a x.f2) a
def restOf (s : List WV) (k : Int) : Int := s.foldl (fun k x => cutI k x.f2) k
def pc (k : Int) : Nat := (k % 2 + k / 2 % 2 + k / 4 % 2 + k / 8 % 2).toNat
def fewP (a : Nat) : Prop := ∀ k x : Fin 16, cutI (k.val : Int) (orI (a : Int) (x.val : Int)) = cutI (cutI (k.val : Int) (a : Int)) (x.val : Int)
instance (a : Nat) : Decidable (fewP a) := by unfold fewP; infer_instance
theorem few_a0 : fewP 0 := by decide +kernel
theorem few_a1 : fewP 1 := by decide +kernel
theorem few_a2 : fewP 2 := by decide +kernel
theorem few_a3 : fewP 3 := by decide +kernel
theorem few_a4 : fewP 4 := by decide +kernel
theorem few_a5 : fewP 5 := by decide +kernel
theorem few_a6 : fewP 6 := by decide +kernel
theorem few_a7 : fewP 7 := by decide +kernel
theorem few_a8 : fewP 8 := by decide +kernel
theorem few_a9 : fewP 9 := by decide +kernel
theorem few_a10 : fewP 10 := by decide +kernel
theorem few_a11 : fewP 11 := by decide +kernel
theorem few_a12 : fewP 12 := by decide +kernel
theorem few_a13 : fewP 13 := by decide +kernel
theorem few_a14 : fewP 14 := by decide +kernel
theorem few_a15 : fewP 15 := by decide +kernel
theorem few_all (a : Nat) (h : a < 16) : fewP a := by
  match a, h with
  | 0, _ => exact few_a0
  | 1, _ => exact few_a1
  | 2, _ => exact few_a2
  | 3, _ => exact few_a3
  | 4, _ => exact few_a4
  | 5, _ => exact few_a5
  | 6, _ => exact few_a6
  | 7, _ => exact few_a7
  | 8, _ => exact few_a8
  | 9, _ => exact few_a9
  | 10, _ => exact few_a10
  | 11, _ => exact few_a11
  | 12, _ => exact few_a12
  | 13, _ => exact few_a13
  | 14, _ => exact few_a14
  | 15, _ => exact few_a15
  | n + 16, h => omega
theorem few_b : ∀ a x : Fin 16, (0 ≤ orI (a.val : Int) (x.val : Int) ∧ orI (a.val : Int) (x.val : Int) ≤ 15) ∧ (0 ≤ cutI (a.val : Int) (x.val : Int) ∧ cutI (a.val : Int) (x.val : Int) ≤ 15) ∧ (cutI (a.val : Int) (x.val : Int) = (a.val : Int) ∨ pc (cutI (a.val : Int) (x.val : Int)) + 1 ≤ pc (a.val : Int)) ∧ (Go.bits .and .i64 (a.val : Int) (x.val : Int) = (x.val : Int) ↔ cutI (x.val : Int) (a.val : Int) = 0) ∧ pc (a.val : Int) ≤ 4 ∧ cutI (a.val : Int) 0 = (a.val : Int) := by decide +kernel
def f16 (x : Int) (h : 0 ≤ x ∧ x ≤ 15) : Fin 16 := ⟨x.toNat, by omega⟩
theorem f16_val (x : Int) (h : 0 ≤ x ∧ x ≤ 15) : (((f16 x h).val : Nat) : Int) = x := by show ((x.toNat : Nat) : Int) = x; omega
theorem few_A (a k x : Int) (ha : 0 ≤ a ∧ a ≤ 15) (hk : 0 ≤ k ∧ k ≤ 15) (hx : 0 ≤ x ∧ x ≤ 15) : cutI k (orI a x) = cutI (cutI k a) x := by
  have := few_all (f16 a ha).val (f16 a ha).isLt (f16 k hk) (f16 x hx)
  rwa [f16_val, f16_val, f16_val] at this
theorem few_B (a x : Int) (ha : 0 ≤ a ∧ a ≤ 15) (hx : 0 ≤ x ∧ x ≤ 15) : (0 ≤ orI a x ∧ orI a x ≤ 15) ∧ (0 ≤ cutI a x ∧ cutI a x ≤ 15) ∧ (cutI a x = a ∨ pc (cutI a x) + 1 ≤ pc a) ∧ (Go.bits .and .i64 a x = x ↔ cutI x a = 0) ∧ pc a ≤ 4 ∧ cutI a 0 = a := by
  have := few_b (f16 a ha) (f16 x hx)
  rwa [f16_val, f16_val] at this
theorem restOf_cons (x : WV) (s : List WV) (k : Int) : restOf (x :: s) k = restOf s (cutI k x.f2) := by unfold restOf; rw [List.foldl_cons]
theorem allOf_cons (x : WV) (s : List WV) (k : Int) : allOf (x :: s) k = allOf s (orI k x.f2) := by unfold allOf; rw [List.foldl_cons]
theorem restOf_nil (k : Int) : restOf [] k = k := by unfold restOf; rw [List.foldl_nil]
theorem allOf_nil (k : Int) : allOf [] k = k := by unfold allOf; rw [List.foldl_nil]
theorem rest_all (s : List WV) : ∀ (k a : Int), (0 ≤ k ∧ k ≤ 15) → (0 ≤ a ∧ a ≤ 15) → (∀ x ∈ s, 0 ≤ x.f2 ∧ x.f2 ≤ 15) → restOf s (cutI k a) = cutI k (allOf s a) ∧ 0 ≤ allOf s a ∧ allOf s a ≤ 15 := by
  induction s with
  | nil => intro k a hk ha _; rw [restOf_nil, allOf_nil]; exact ⟨rfl, ha⟩
  | cons x s ih =>
    intro k a hk ha hs
    have hx := hs x (List.mem_cons_self ..)
    have := ih k (orI a x.f2) hk (few_B a x.f2 ha hx).1 (fun y hy => hs y (List.mem_cons_of_mem _ hy))
    rw [few_A a k x.f2 ha hk hx] at this
    rw [restOf_cons, allOf_cons]
    exact this
theorem cover_iff (s : List WV) (k : Int) (hk : 0 ≤ k ∧ k ≤ 15) (hs : ∀ x ∈ s, 0 ≤ x.f2 ∧ x.f2 ≤ 15) : Go.bits .and .i64 (allOf s 0) k = k ↔ restOf s k = 0 := by
  obtain ⟨h1, h2⟩ := rest_all s k 0 hk (by omega) hs
  rw [(few_B (allOf s 0) k h2 hk).2.2.2.1, ← h1, (few_B k 0 hk (by omega)).2.2.2.2.2]
theorem short (s : List WV) : ∀ k : Int, (0 ≤ k ∧ k ≤ 15) → (∀ x ∈ s, 0 ≤ x.f2 ∧ x.f2 ≤ 15) → restOf s k = 0 → ∃ t : List WV, t.Sublist s ∧ t.length ≤ pc k ∧ restOf t k = 0 := by
  induction s with
  | nil => intro k hk _ h; exact ⟨[], List.Sublist.slnil, Nat.zero_le _, h⟩
  | cons x s ih =>
    intro k hk hs h
    have hx := hs x (List.mem_cons_self ..)
    have hs' : ∀ y ∈ s, 0 ≤ y.f2 ∧ y.f2 ≤ 15 := fun y hy => hs y (List.mem_cons_of_mem _ hy)
    obtain ⟨_, hc, hd, _⟩ := few_B k x.f2 hk hx
    have h' : restOf s (cutI k x.f2) = 0 := h
    rcases hd with hd | hd
    · rw [hd] at h'
      obtain ⟨t, h1, h2, h3⟩ := ih k hk hs' h'
      exact ⟨t, h1.cons x, h2, h3⟩
    · obtain ⟨t, h1, h2, h3⟩ := ih (cutI k x.f2) hc hs' h'
      exact ⟨x :: t, h1.cons_cons x, by rw [List.length_cons]; omega, h3⟩
def cmpL : List Int → List Int → Int
  | [], [] => 0
  | [], _ :: _ => -1
  | _ :: _, [] => 1
  | a :: s, b :: t => if a < b then -1 else if a > b then 1 else cmpL s t
theorem cmpL_self (s : List Int) : cmpL s s = 0 := by
  induction s with
  | nil => rfl
  | cons a s ih => rw [cmpL, if_neg (by omega), if_neg (by omega), ih]
theorem cmpL_anti (s : List Int) : ∀ t : List Int, cmpL s t = - cmpL t s := by
  induction s with
  | nil => intro t; cases t <;> rfl
  | cons a s ih =>
    intro t
    cases t with
    | nil => rfl
    | cons b t =>
      rw [cmpL, cmpL]
      by_cases c : a < b
      · rw [if_pos c, if_neg (show ¬ b < a by omega), if_pos (show b > a by omega)]
      · by_cases d : a > b
        · rw [if_neg c, if_pos d, if_pos (show b < a by omega)]; rfl
        · rw [if_neg c, if_neg d, if_neg (show ¬ b < a by omega), if_neg (show ¬ b > a by omega), ih t]
theorem cmpL_eq (s : List Int) : ∀ t : List Int, cmpL s t = 0 → s = t := by
  induction s with
  | nil => intro t; cases t with
    | nil => intro _; rfl
    | cons b t => intro h; exact absurd h (by rw [cmpL]; decide)
  | cons a s ih =>
    intro t h
    cases t with
    | nil => exact absurd h (by rw [cmpL]; decide)
    | cons b t =>
      rw [cmpL] at h
      by_cases c : a < b
      · rw [if_pos c] at h; exact absurd h (by decide)
      · by_cases d : a > b
        · rw [if_neg c, if_pos d] at h; exact absurd h (by decide)
        · rw [if_neg c, if_neg d] at h
          rw [show a = b by omega, ih t h]
theorem cmpL_trans (s : List Int) : ∀ t u : List Int, cmpL s t ≤ 0 → cmpL t u ≤ 0 → cmpL s u ≤ 0 := by
  induction s with
  | nil => intro t u _ _; cases u <;> rw [cmpL] <;> decide
  | cons a s ih =>
    intro t u h1 h2
    cases t with
    | nil => rw [cmpL] at h1; exact absurd h1 (by decide)
    | cons b t =>
      cases u with
      | nil => rw [cmpL] at h2; exact absurd h2 (by decide)
      | cons d u =>
        rw [cmpL] at h1 h2 ⊢
        by_cases c1 : a < b
        · by_cases c2 : b < d
          · rw [if_pos (show a < d by omega)]; decide
          · by_cases c3 : b > d
            · rw [if_neg c2, if_pos c3] at h2; exact absurd h2 (by decide)
            · rw [if_pos (show a < d by omega)]; decide
        · by_cases c2 : a > b
          · rw [if_neg c1, if_pos c2] at h1; exact absurd h1 (by decide)
          · rw [if_neg c1, if_neg c2] at h1
            have e : a = b := by omega
            subst e
            by_cases c3 : a < d
            · rw [if_pos c3]; decide
            · by_cases c4 : a > d
              · rw [if_neg c3, if_pos c4] at h2; exact absurd h2 (by decide)
              · rw [if_neg c3, if_neg c4] at h2 ⊢
                exact ih t u h1 h2
def least : List WV → Nat → Int → Option (List Int)
  | [], 0, k => if k = 0 then some [] else none
  | [], _ + 1, _ => none
  | _ :: _, 0, k => if k = 0 then some [] else none
  | x :: t, n + 1, k => match least t n (cutI k x.f2) with
    | some r => some (x.f0 :: r)
    | none => least t (n + 1) k
theorem least_zero (t : List WV) (k : Int) : least t 0 k = if k = 0 then some [] else none := by cases t <;> rfl
theorem least_some (t : List WV) : ∀ (n : Nat) (k : Int) (r : List Int), least t n k = some r → ∃ s : List WV, s.Sublist t ∧ s.length = n ∧ restOf s k = 0 ∧ r = s.map (·.f0) := by
  induction t with
  | nil =>
    intro n k r h
    cases n with
    | zero =>
      rw [least] at h
      by_cases c : k = 0
      · rw [if_pos c] at h
        exact ⟨[], List.Sublist.slnil, rfl, c, (Option.some.inj h).symm⟩
      · rw [if_neg c] at h; cases h
    | succ n => rw [least] at h; cases h
  | cons x t ih =>
    intro n k r h
    cases n with
    | zero =>
      rw [least] at h
      by_cases c : k = 0
      · rw [if_pos c] at h
        exact ⟨[], List.nil_sublist _, rfl, c, (Option.some.inj h).symm⟩
      · rw [if_neg c] at h; cases h
    | succ n =>
      rw [least] at h
      cases h1 : least t n (cutI k x.f2) with
      | some q =>
        rw [h1] at h
        obtain ⟨s, a, b, c, d⟩ := ih n _ q h1
        exact ⟨x :: s, a.cons_cons x, by rw [List.length_cons, b], c, by rw [← Option.some.inj h, d]; rfl⟩
      | none =>
        rw [h1] at h
        obtain ⟨s, a, b, c, d⟩ := ih (n + 1) k r h
        exact ⟨s, a.cons x, b, c, d⟩
theorem least_min (t : List WV) : ∀ (n : Nat) (k : Int) (s : List WV), t.Pairwise (fun a b => a.f0 < b.f0) → s.Sublist t → s.length = n → restOf s k = 0 → ∃ r, least t n k = some r ∧ cmpL r (s.map (·.f0)) ≤ 0 := by
  induction t with
  | nil =>
    intro n k s _ hs hn hr
    have e : s = [] := List.sublist_nil.1 hs
    subst e
    have e2 : n = 0 := hn.symm
    subst e2
    have hk : k = 0 := hr
    exact ⟨[], by rw [least, if_pos hk], by decide⟩
  | cons x t ih =>
    intro n k s hp hs hn hr
    obtain ⟨hp1, hp2⟩ := List.pairwise_cons.1 hp
    cases n with
    | zero =>
      have e : s = [] := List.length_eq_zero_iff.1 hn
      subst e
      have hk : k = 0 := hr
      exact ⟨[], by rw [least, if_pos hk], by decide⟩
    | succ n =>
      rw [least]
      cases hs with
      | cons _ h =>
        cases s with
        | nil => cases hn
        | cons y s =>
          have hy : x.f0 < y.f0 := hp1 y (h.subset (List.mem_cons_self ..))
          cases h1 : least t n (cutI k x.f2) with
          | some q => exact ⟨_, rfl, by rw [List.map_cons, cmpL, if_pos hy]; decide⟩
          | none => exact ih (n + 1) k (y :: s) hp2 h hn hr
      | cons_cons _ h =>
        rename_i s
        obtain ⟨q, h1, h2⟩ := ih n (cutI k x.f2) s hp2 h (Nat.succ.inj hn) hr
        rw [h1]
        exact ⟨_, rfl, by rw [List.map_cons, cmpL, if_neg (by omega), if_neg (by omega)]; exact h2⟩
def pick : List WV → Nat → List WV
  | [], _ => []
  | x :: t, m => if m % 2 = 1 then x :: pick t (m / 2) else pick t (m / 2)
theorem pick_sub (t : List WV) : ∀ m, (pick t m).Sublist t := by
  induction t with
  | nil => intro m; exact List.Sublist.slnil
  | cons x t ih =>
    intro m
    rw [pick]
    split
    · exact (ih _).cons_cons x
    · exact (ih _).cons x
theorem sub_pick {s t : List WV} (h : s.Sublist t) : ∃ m, m < 2 ^ t.length ∧ pick t m = s := by
  induction h with
  | slnil => exact ⟨0, by decide, rfl⟩
  | cons x _ ih =>
    obtain ⟨m, h1, h2⟩ := ih
    exact ⟨2 * m, by rw [List.length_cons, Nat.pow_succ]; omega, by rw [pick, if_neg (by omega), show 2 * m / 2 = m by omega, h2]⟩
  | cons_cons x _ ih =>
    obtain ⟨m, h1, h2⟩ := ih
    exact ⟨2 * m + 1, by rw [List.length_cons, Nat.pow_succ]; omega, by rw [pick, if_pos (by omega), show (2 * m + 1) / 2 = m by omega, h2]⟩
def leL (a b : List Int) : Prop := a.length < b.length ∨ (a.length = b.length ∧ cmpL a b ≤ 0)
theorem leL_trans (a b c : List Int) (h1 : leL a b) (h2 : leL b c) : leL a c := by
  rcases h1 with h1 | ⟨h1, h3⟩ <;> rcases h2 with h2 | ⟨h2, h4⟩
  · exact .inl (by omega)
  · exact .inl (by omega)
  · exact .inl (by omega)
  · exact .inr ⟨by omega, cmpL_trans a b c h3 h4⟩
theorem leL_self (a : List Int) : leL a a := .inr ⟨rfl, by rw [cmpL_self]; decide⟩
def Found (l : List WV) (k : Int) (m : Nat) (q : List Int × Bool) : Prop :=
  (q = ([], false) ∧ ∀ j < m, restOf (pick l j) k ≠ 0) ∨
  (q.2 = true ∧ (∃ j, restOf (pick l j) k = 0 ∧ q.1 = (pick l j).map (·.f0)) ∧ ∀ j < m, restOf (pick l j) k = 0 → leL q.1 ((pick l j).map (·.f0)))
def firstOf (l : List WV) (k : Int) : Nat → Nat → List Int × Bool
  | 0, _ => ([], false)
  | d + 1, n => match least l n k with
    | some r => (r, true)
    | none => firstOf l k d (n + 1)
theorem firstOf_none (l : List WV) (k : Int) : ∀ d n, (∀ i, n ≤ i → i < n + d → least l i k = none) → firstOf l k d n = ([], false) := by
  intro d
  induction d with
  | zero => intro n _; rfl
  | succ d ih =>
    intro n h
    rw [firstOf, h n (by omega) (by omega)]
    exact ih (n + 1) (fun i h1 h2 => h i (by omega) (by omega))
theorem firstOf_some (l : List WV) (k : Int) (r : List Int) : ∀ d n i, n ≤ i → i < n + d → (∀ j, n ≤ j → j < i → least l j k = none) → least l i k = some r → firstOf l k d n = (r, true) := by
  intro d
  induction d with
  | zero => intro n i h1 h2; omega
  | succ d ih =>
    intro n i h1 h2 h3 h4
    rw [firstOf]
    by_cases e : n = i
    · rw [e, h4]
    · rw [h3 n (by omega) (by omega)]
      exact ih (n + 1) i (by omega) (by omega) (fun j h5 h6 => h3 j (by omega) h6) h4
theorem found_first (l : List WV) (k : Int) (hk : 1 ≤ k ∧ k ≤ 15) (hp : l.Pairwise (fun a b => a.f0 < b.f0)) (hx : ∀ x ∈ l, 0 ≤ x.f2 ∧ x.f2 ≤ 15) (q : List Int × Bool) (h : Found l k (2 ^ l.length) q) : q = firstOf l k 4 1 := by
  rcases h with ⟨rfl, h⟩ | ⟨h1, ⟨j0, h2, h3⟩, h4⟩
  · refine (firstOf_none l k 4 1 (fun i _ _ => ?_)).symm
    cases e : least l i k with
    | none => rfl
    | some r =>
      obtain ⟨s, a, b, c, d⟩ := least_some l i k r e
      obtain ⟨m, hm, hs⟩ := sub_pick a
      exact absurd (by rw [hs]; exact c) (h m hm)
  · obtain ⟨q1, q2⟩ := q
    dsimp only at h1 h3 h4
    subst h1
    have hmin : ∀ s : List WV, s.Sublist l → restOf s k = 0 → leL q1 (s.map (·.f0)) := fun s a c => by
      obtain ⟨m, hm, hs⟩ := sub_pick a
      have := h4 m hm (by rw [hs]; exact c)
      rwa [hs] at this
    obtain ⟨p, hpk⟩ : ∃ p, p = pick l j0 := ⟨_, rfl⟩
    have hsub : p.Sublist l := by rw [hpk]; exact pick_sub l j0
    rw [← hpk] at h2 h3
    have hlen : q1.length = p.length := by rw [h3, List.length_map]
    have h0 : 1 ≤ p.length := by
      cases p with
      | nil => exact absurd (show k = 0 from h2) (by omega)
      | cons _ _ => rw [List.length_cons]; omega
    have h5 : p.length ≤ 4 := by
      obtain ⟨s, a, b, c⟩ := short p k (by omega) (fun x hx' => hx x (hsub.subset hx')) h2
      have b2 := (few_B k 0 (by omega) (by omega)).2.2.2.2.1
      rcases hmin s (a.trans hsub) c with d | ⟨d, _⟩ <;> rw [List.length_map] at d <;> omega
    obtain ⟨r, r1, r2⟩ := least_min l p.length k p hp hsub rfl h2
    obtain ⟨s, a, b, c, d⟩ := least_some l p.length k r r1
    have e : q1 = r := by
      have h6 := hmin s a c
      rw [← d] at h6
      rw [← h3] at r2
      rcases h6 with h6 | ⟨h6, h7⟩
      · rw [d, List.length_map] at h6; omega
      · have := cmpL_anti r q1
        exact cmpL_eq q1 r (by omega)
    rw [e]
    refine (firstOf_some l k r 4 1 p.length h0 (by omega) (fun j h6 h7 => ?_) r1).symm
    cases e : least l j k with
    | none => rfl
    | some r' =>
      obtain ⟨s, a, b, c, d⟩ := least_some l j k r' e
      rcases hmin s a c with d | ⟨d, _⟩ <;> rw [List.length_map] at d <;> omega
theorem few_l11Skills (a : Int) : spec_l11Skills.f a = some (rng a 1 15) := by unfold spec_l11Skills.f; rw [l1In_eq]; rfl
theorem few_areSkills (a : Int) : impl_areSkills.f a = some (rng a 1 15) := by unfold impl_areSkills.f; rw [in_eq]; rfl
theorem few_rd (l : List WV) (i : Nat) (hi : i < l.length) : rd_T26 l (i : Int) = l[i] := by
  show l.getD ((i : Int)).toNat z26 = l[i]
  rw [Int.toNat_natCast, List.getD_eq_getElem?_getD, List.getElem?_eq_getElem hi]
  rfl
theorem few_rdI (l : List Int) (i : Nat) (hi : i < l.length) : rd l (i : Int) = l[i] := by
  show l.getD ((i : Int)).toNat 0 = l[i]
  rw [Int.toNat_natCast, List.getD_eq_getElem?_getD, List.getElem?_eq_getElem hi]
  rfl
def resOf : Option (List Int) → List Int × Bool
  | some r => (r, true)
  | none => ([], false)
theorem least_f (l : List WV) (i n : Nat) (k : Int) (h : 1 ≤ n → Ev (fun q => spec_l11Least.l0 q l (n : Int) k (i : Int)) (resOf (least (l.drop i) n k))) : Ev (fun q => spec_l11Least.f q l (i : Int) (n : Int) k) (resOf (least (l.drop i) n k)) := by
  by_cases c : n = 0
  · subst c
    rw [least_zero]
    have e : resOf (if k = 0 then some [] else none) = ([], k == 0) := by
      by_cases c : k = 0
      · subst c; rfl
      · rw [if_neg c, beq_eq_false_iff_ne.2 c]; rfl
    rw [e]
    exact Ev.step (f := fun _ => some ([], k == 0)) (fun q => by rw [spec_l11Least.f, if_pos (by rfl)]) (Ev.now _)
  · exact Ev.step (fun q => by rw [spec_l11Least.f, if_neg (by omega)]) (h (by omega))
theorem least_l0 (l : List WV) (hl : l.length ≤ 8) (hx : ∀ x ∈ l, 1 ≤ x.f2 ∧ x.f2 ≤ 15) (d : Nat) : ∀ (i n : Nat) (k : Int), i + d = l.length → 1 ≤ n → n ≤ 4 → Ev (fun q => spec_l11Least.l0 q l (n : Int) k (i : Int)) (resOf (least (l.drop i) n k)) := by
  induction d with
  | zero =>
    intro i n k hi hn hn4
    rw [List.drop_eq_nil_of_le (by omega)]
    obtain ⟨n, rfl⟩ : ∃ m, n = m + 1 := ⟨n - 1, by omega⟩
    exact Ev.step (f := fun _ => some ([], false)) (fun q => by rw [spec_l11Least.l0, if_neg (by omega)]) (Ev.now _)
  | succ d ih =>
    intro i n k hi hn hn4
    obtain ⟨n, rfl⟩ : ∃ m, n = m + 1 := ⟨n - 1, by omega⟩
    have hi2 : i < l.length := by omega
    have e0 := few_rd l i hi2
    have hm := hx l[i] (List.getElem_mem hi2)
    rw [List.drop_eq_getElem_cons hi2, least]
    obtain ⟨x, hxe⟩ : ∃ x, x = l[i] := ⟨_, rfl⟩
    rw [← hxe] at e0 hm ⊢
    have e1 : ((i + 1 : Nat) : Int) = (i : Int) + 1 := by omega
    have e2 : wrap64 (((n + 1 : Nat) : Int) - 1) = (n : Int) := by rw [wrap_id _ (by omega) (by omega)]; omega
    have F := least_f l (i + 1) n (cutI k x.f2) (fun h => ih (i + 1) n _ (by omega) h (by omega))
    have G := ih (i + 1) (n + 1) k (by omega) (by omega) hn4
    rw [e1] at F G
    cases h1 : least (l.drop (i + 1)) n (cutI k x.f2) with
    | some r =>
      have hr : r.length ≤ 4 := by
        obtain ⟨s, a, b, c, d⟩ := least_some _ _ _ _ h1
        rw [d, List.length_map]; omega
      have F2 : Ev (fun q => spec_l11Least.f q l ((i : Int) + 1) (n : Int) (cutI k x.f2)) (r, true) := by rw [h1] at F; exact F
      refine Ev.step (fun q => by rw [spec_l11Least.l0, if_pos (by omega), if_pos (by omega), e0, wrap_id ((i : Int) + 1) (by omega) (by omega), e2, wrap_id (15 - x.f2) (by omega) (by omega), show Go.bits .and .i64 k (15 - x.f2) = cutI k x.f2 from rfl]) (Ev.bind F2 ?_)
      dsimp only
      simp only [if_true, Option.bind_some, if_pos (show ([x.f0] : List Int).length + r.length < 17592186044416 by rw [List.length_singleton]; omega)]
      exact Ev.now _
    | none =>
      have F2 : Ev (fun q => spec_l11Least.f q l ((i : Int) + 1) (n : Int) (cutI k x.f2)) ([], false) := by rw [h1] at F; exact F
      refine Ev.step (fun q => by rw [spec_l11Least.l0, if_pos (by omega), if_pos (by omega), e0, wrap_id ((i : Int) + 1) (by omega) (by omega), e2, wrap_id (15 - x.f2) (by omega) (by omega), show Go.bits .and .i64 k (15 - x.f2) = cutI k x.f2 from rfl]) (Ev.bind F2 ?_)
      dsimp only
      simp only [Bool.false_eq_true, if_false]
      exact G
theorem first_l0 (l : List WV) (hl : l.length ≤ 8) (hx : ∀ x ∈ l, 1 ≤ x.f2 ∧ x.f2 ≤ 15) (k : Int) (d : Nat) : ∀ n : Nat, n + d = 5 → 1 ≤ n → Ev (fun q => spec_FewestFor.l0 q l k (n : Int)) (firstOf l k d n) := by
  induction d with
  | zero =>
    intro n hn h1
    exact Ev.step (f := fun _ => some ([], false)) (fun q => by rw [spec_FewestFor.l0, if_neg (by omega)]) (Ev.now _)
  | succ d ih =>
    intro n hn h1
    have F : Ev (fun q => spec_l11Least.f q l 0 (n : Int) k) (resOf (least l n k)) := by
      have := least_f l 0 n k (fun h => least_l0 l hl hx l.length 0 n k (by omega) h (by omega))
      rw [List.drop_zero] at this
      exact this
    have G := ih (n + 1) (by omega) (by omega)
    have e1 : ((n + 1 : Nat) : Int) = (n : Int) + 1 := by omega
    rw [e1] at G
    refine Ev.step (fun q => by rw [spec_FewestFor.l0, if_pos (by omega), wrap_id ((n : Int) + 1) (by omega) (by omega)]) (Ev.bind F ?_)
    rw [firstOf]
    cases h1 : least l n k with
    | some r => simp only [resOf, if_true]; exact Ev.now _
    | none => simp only [resOf, Bool.false_eq_true, if_false]; exact G
theorem few_cmp (x y : Int) : cmp_Compare_int.f x y = some (if x < y then -1 else if x > y then 1 else 0) := by
  unfold cmp_Compare_int.f cmp_isNaN_int.f
  simp only [Option.bind_some, bne_self_eq_false, Bool.false_eq_true, if_false]
  split
  · rfl
  · split <;> rfl
theorem cmp_l0 (a b : List Int) (ha : a.length ≤ 8) (d : Nat) : ∀ i : Nat, i + d = a.length → i ≤ b.length → Ev (fun q => slices_Compare_int_int.l0 q a b a (a.length : Int) (i : Int)) (cmpL (a.drop i) (b.drop i)) := by
  induction d with
  | zero =>
    intro i hi hb
    rw [List.drop_eq_nil_of_le (by omega)]
    by_cases c : a.length < b.length
    · rw [List.drop_eq_getElem_cons (show i < b.length by omega)]
      exact Ev.step (f := fun _ => some (-1)) (fun q => by rw [slices_Compare_int_int.l0, if_neg (by omega), if_pos (by omega)]) (Ev.now _)
    · rw [List.drop_eq_nil_of_le (show b.length ≤ i by omega)]
      exact Ev.step (f := fun _ => some 0) (fun q => by rw [slices_Compare_int_int.l0, if_neg (by omega), if_neg (by omega)]) (Ev.now _)
  | succ d ih =>
    intro i hi hb
    have hi2 : i < a.length := by omega
    rw [List.drop_eq_getElem_cons hi2]
    by_cases c : i < b.length
    · rw [List.drop_eq_getElem_cons c, cmpL]
      have G := ih (i + 1) (by omega) (by omega)
      have e1 : ((i + 1 : Nat) : Int) = (i : Int) + 1 := by omega
      rw [e1] at G
      refine Ev.step (fun q => by rw [slices_Compare_int_int.l0, if_pos (by omega), if_pos (by omega), if_pos (by omega), if_neg (by omega), if_pos (by omega), few_rdI a i hi2, few_rdI b i c, few_cmp, Option.bind_some, wrap_id ((i : Int) + 1) (by omega) (by omega)]) ?_
      by_cases c1 : a[i] < b[i]
      · simp only [if_pos c1]; exact Ev.now _
      · by_cases c2 : a[i] > b[i]
        · simp only [if_neg c1, if_pos c2]; exact Ev.now _
        · simp only [if_neg c1, if_neg c2, if_true]; exact G
    · rw [List.drop_eq_nil_of_le (show b.length ≤ i by omega)]
      exact Ev.step (f := fun _ => some 1) (fun q => by rw [slices_Compare_int_int.l0, if_pos (by omega), if_pos (by omega), if_pos (by omega), if_pos (by omega)]) (Ev.now _)
theorem cmp_ev (a b : List Int) (ha : a.length ≤ 8) : Ev (fun q => slices_Compare_int_int.f q a b) (cmpL a b) := by
  unfold slices_Compare_int_int.f
  exact cmp_l0 a b ha a.length 0 (by omega) (Nat.zero_le _)
theorem few_bit : ∀ (m : Fin 256) (i : Fin 8), Go.bits .and .i64 (shr .i64 (m.val : Int) (i.val : Int)) 1 = if m.val / 2 ^ i.val % 2 = 1 then 1 else 0 := by decide +kernel
theorem few_shl : ∀ n : Fin 9, shl .i64 1 (n.val : Int) = ((2 ^ n.val : Nat) : Int) := by decide +kernel
theorem few_inner (l : List WV) (hl : l.length ≤ 8) (k : Int) (best : List Int) (found : Bool) (M : Int) (m : Nat) (hm : m < 256) (d : Nat) : ∀ (i : Nat) (ids : List Int) (a : Int) (r : List Int × Bool), i + d = l.length → ids.length ≤ i →
    Ev (fun q => impl_FewestFor.l1 q l k best found (m : Int) (ids ++ (pick (l.drop i) (m / 2 ^ i)).map (·.f0)) (allOf (pick (l.drop i) (m / 2 ^ i)) a) M (m : Int) l (l.length : Int) (l.length : Int)) r →
    Ev (fun q => impl_FewestFor.l1 q l k best found (m : Int) ids a M (m : Int) l (l.length : Int) (i : Int)) r := by
  induction d with
  | zero =>
    intro i ids a r hi hn h
    rw [List.drop_eq_nil_of_le (by omega), pick, List.map_nil, List.append_nil] at h
    have e : i = l.length := by omega
    subst e
    exact h
  | succ d ih =>
    intro i ids a r hi hn h
    have hi2 : i < l.length := by omega
    have e0 := few_rd l i hi2
    have hb := few_bit ⟨m, hm⟩ ⟨i, by omega⟩
    have hp : m / 2 ^ i / 2 = m / 2 ^ (i + 1) := by rw [Nat.div_div_eq_div_mul, Nat.pow_succ]
    have e1 : ((i + 1 : Nat) : Int) = (i : Int) + 1 := by omega
    dsimp only at hb
    rw [List.drop_eq_getElem_cons hi2, pick, hp] at h
    obtain ⟨x, hxe⟩ : ∃ x, x = l[i] := ⟨_, rfl⟩
    rw [← hxe] at e0 h
    by_cases c : m / 2 ^ i % 2 = 1
    · rw [if_pos c] at hb h
      have G := ih (i + 1) (ids ++ [x.f0]) (orI a x.f2) r (by omega) (by rw [List.length_append, List.length_singleton]; omega) (by
        rw [List.append_assoc]
        exact h)
      rw [e1] at G
      exact Ev.step (fun q => by rw [impl_FewestFor.l1, if_pos (by omega), if_pos (by omega), if_pos (by omega), hb, if_pos rfl, if_pos (by omega), e0, wrap_id ((i : Int) + 1) (by omega) (by omega), show Go.bits .or .i64 a x.f2 = orI a x.f2 from rfl]) G
    · rw [if_neg c] at hb h
      have G := ih (i + 1) ids a r (by omega) (by omega) h
      rw [e1] at G
      exact Ev.step (fun q => by rw [impl_FewestFor.l1, if_pos (by omega), if_pos (by omega), if_pos (by omega), hb, if_neg (by decide), wrap_id ((i : Int) + 1) (by omega) (by omega)]) G
theorem found_new (l : List WV) (k : Int) (m : Nat) (q : List Int × Bool) (h : Found l k m q) (hc : restOf (pick l m) k = 0) (hn : q.2 = true → leL ((pick l m).map (·.f0)) q.1) : Found l k (m + 1) ((pick l m).map (·.f0), true) := by
  refine .inr ⟨rfl, ⟨m, hc, rfl⟩, fun j hj hcj => ?_⟩
  by_cases e : j = m
  · rw [e]; exact leL_self _
  · rcases h with ⟨_, h⟩ | ⟨h1, _, h4⟩
    · exact absurd hcj (h j (by omega))
    · exact leL_trans _ _ _ (hn h1) (h4 j (by omega) hcj)
theorem found_old (l : List WV) (k : Int) (m : Nat) (q : List Int × Bool) (h : Found l k m q) (hn : restOf (pick l m) k = 0 → q.2 = true ∧ leL q.1 ((pick l m).map (·.f0))) : Found l k (m + 1) q := by
  rcases h with ⟨h1, h⟩ | ⟨h1, h2, h4⟩
  · refine .inl ⟨h1, fun j hj hcj => ?_⟩
    by_cases e : j = m
    · rw [e] at hcj
      have := (hn hcj).1
      rw [h1] at this
      cases this
    · exact h j (by omega) hcj
  · refine .inr ⟨h1, h2, fun j hj hcj => ?_⟩
    by_cases e : j = m
    · rw [e] at hcj ⊢
      exact (hn hcj).2
    · exact h4 j (by omega) hcj
theorem few_impl (l : List WV) (hl : l.length ≤ 8) (hx : ∀ x ∈ l, 0 ≤ x.f2 ∧ x.f2 ≤ 15) (k : Int) (hk : 1 ≤ k ∧ k ≤ 15) : ∃ q, Found l k (2 ^ l.length) q ∧ Ev (fun f => impl_FewestFor.l0 f l k [] false (shl .i64 1 (l.length : Int)) 0) q := by
  have hM : shl .i64 1 (l.length : Int) = ((2 ^ l.length : Nat) : Int) := few_shl ⟨l.length, by omega⟩
  have h256 : 2 ^ l.length ≤ 256 := Nat.pow_le_pow_right (by decide) hl
  rw [hM]
  obtain ⟨M, hMe⟩ : ∃ M, M = 2 ^ l.length := ⟨_, rfl⟩
  rw [← hMe] at h256 ⊢
  refine Ev.loopE (fun f i (q : List Int × Bool) => impl_FewestFor.l0 f l k q.1 q.2 (M : Int) i) M (fun m q => Found l k m q) (fun q => Found l k M q)
    (fun q hq => ⟨q, hq, Ev.step (f := fun _ => some (q.1, q.2)) (fun f => by rw [impl_FewestFor.l0, if_neg (by omega)]) (Ev.now _)⟩)
    (fun m q hm hq => ?_) ([], false) (.inl ⟨rfl, fun j hj => absurd hj (Nat.not_lt_zero j)⟩)
  obtain ⟨p, hp⟩ : ∃ p, p = pick l m := ⟨_, rfl⟩
  have hsub : p.Sublist l := by rw [hp]; exact pick_sub l m
  have hc := cover_iff p k (by omega) (fun x h => hx x (hsub.subset h))
  have hlen : (p.map (·.f0)).length ≤ 8 := by rw [List.length_map]; have := hsub.length_le; omega
  have hnew := found_new l k m q hq
  have hold := found_old l k m q hq
  rw [← hp] at hnew hold
  have hcmp := cmp_ev (p.map (·.f0)) q.1 hlen
  have hanti := cmpL_anti (p.map (·.f0)) q.1
  have go : ∀ (q' : List Int × Bool) (r : List Int × Bool), (Ev (fun f => impl_FewestFor.l0 f l k q'.1 q'.2 (M : Int) ((m : Int) + 1)) r → Ev (fun f => impl_FewestFor.l1 f l k q.1 q.2 (m : Int) (p.map (·.f0)) (allOf p 0) (M : Int) (m : Int) l (l.length : Int) (l.length : Int)) r) → Ev (fun f => impl_FewestFor.l0 f l k q'.1 q'.2 (M : Int) ((m : Int) + 1)) r → Ev (fun f => impl_FewestFor.l0 f l k q.1 q.2 (M : Int) (m : Int)) r := fun q' r h1 h2 => by
    have := few_inner l hl k q.1 q.2 (M : Int) m (by omega) l.length 0 [] 0 r (by omega) (Nat.zero_le _) (by
      rw [List.drop_zero, Nat.pow_zero, Nat.div_one, List.nil_append, ← hp]
      exact h1 h2)
    exact Ev.step (fun f => by rw [impl_FewestFor.l0, if_pos (by omega)]; rfl) this
  obtain ⟨b, fd⟩ := q
  dsimp only at hnew hold hcmp hanti go ⊢
  obtain ⟨ids, hids⟩ : ∃ ids, ids = p.map (·.f0) := ⟨_, rfl⟩
  rw [← hids] at hnew hold hcmp hanti go
  cases fd with
  | false =>
    by_cases cv : Go.bits .and .i64 (allOf p 0) k = k
    · exact ⟨(ids, true), hnew (hc.1 cv) (fun h => by cases h), fun r => go (ids, true) r fun h => Ev.step (fun f => by rw [impl_FewestFor.l1, if_neg (by omega), if_neg (by decide), if_pos cv, wrap_id ((m : Int) + 1) (by omega) (by omega)]) h⟩
    · exact ⟨(b, false), hold (fun h => absurd (hc.2 h) cv), fun r => go (b, false) r fun h => Ev.step (fun f => by rw [impl_FewestFor.l1, if_neg (by omega), if_neg (by decide), if_neg cv, wrap_id ((m : Int) + 1) (by omega) (by omega)]) h⟩
  | true =>
    by_cases c1 : (ids.length : Int) < (b.length : Int)
    · by_cases cv : Go.bits .and .i64 (allOf p 0) k = k
      · exact ⟨(ids, true), hnew (hc.1 cv) (fun _ => .inl (by omega)), fun r => go (ids, true) r fun h => Ev.step (fun f => by rw [impl_FewestFor.l1, if_neg (by omega), if_pos rfl, if_pos c1, if_pos cv, wrap_id ((m : Int) + 1) (by omega) (by omega)]) h⟩
      · exact ⟨(b, true), hold (fun h => absurd (hc.2 h) cv), fun r => go (b, true) r fun h => Ev.step (fun f => by rw [impl_FewestFor.l1, if_neg (by omega), if_pos rfl, if_pos c1, if_neg cv, wrap_id ((m : Int) + 1) (by omega) (by omega)]) h⟩
    · by_cases c2 : (ids.length : Int) = (b.length : Int)
      · by_cases cv : Go.bits .and .i64 (allOf p 0) k = k
        · by_cases c3 : cmpL ids b < 0
          · exact ⟨(ids, true), hnew (hc.1 cv) (fun _ => .inr ⟨by omega, by omega⟩), fun r => go (ids, true) r fun h => Ev.step (fun f => by rw [impl_FewestFor.l1, if_neg (by omega), if_pos rfl, if_neg c1, if_pos c2]) (Ev.bind hcmp (by simp only [if_pos cv, if_pos c3, wrap_id ((m : Int) + 1) (show -9223372036854775808 ≤ (m : Int) + 1 by omega) (show (m : Int) + 1 ≤ 9223372036854775807 by omega)]; exact h))⟩
          · exact ⟨(b, true), hold (fun _ => ⟨rfl, .inr ⟨by omega, by omega⟩⟩), fun r => go (b, true) r fun h => Ev.step (fun f => by rw [impl_FewestFor.l1, if_neg (by omega), if_pos rfl, if_neg c1, if_pos c2]) (Ev.bind hcmp (by simp only [if_pos cv, if_neg c3, wrap_id ((m : Int) + 1) (show -9223372036854775808 ≤ (m : Int) + 1 by omega) (show (m : Int) + 1 ≤ 9223372036854775807 by omega)]; exact h))⟩
        · exact ⟨(b, true), hold (fun h => absurd (hc.2 h) cv), fun r => go (b, true) r fun h => Ev.step (fun f => by rw [impl_FewestFor.l1, if_neg (by omega), if_pos rfl, if_neg c1, if_pos c2]) (Ev.bind hcmp (by simp only [if_neg cv, wrap_id ((m : Int) + 1) (show -9223372036854775808 ≤ (m : Int) + 1 by omega) (show (m : Int) + 1 ≤ 9223372036854775807 by omega)]; exact h))⟩
      · exact ⟨(b, true), hold (fun _ => ⟨rfl, .inl (by omega)⟩), fun r => go (b, true) r fun h => Ev.step (fun f => by rw [impl_FewestFor.l1, if_neg (by omega), if_pos rfl, if_neg c1, if_neg c2, ite_self, wrap_id ((m : Int) + 1) (by omega) (by omega)]) h⟩
theorem okWvs_pair (t : List WV) (h : okWvs t = true) : t.Pairwise (fun a b => a.f0 < b.f0) := by
  unfold okWvs at h
  rw [Bool.and_eq_true, Bool.and_eq_true, Bool.and_eq_true, asc_iff idWv z26] at h
  have h3 := h.2.2.1
  have key : ∀ d i : Nat, i + d + 1 < t.length → (t.getD i z26).f0 < (t.getD (i + d + 1) z26).f0 := by
    intro d
    induction d with
    | zero => intro i hi; exact h3 i hi
    | succ d ih =>
      intro i hi
      have h1 : (t.getD i z26).f0 < (t.getD (i + d + 1) z26).f0 := ih i (by omega)
      have h2 : (t.getD (i + d + 1) z26).f0 < (t.getD (i + d + 1 + 1) z26).f0 := h3 (i + d + 1) (by omega)
      have h4 : i + (d + 1) + 1 = i + d + 1 + 1 := by omega
      rw [h4]
      omega
  rw [List.pairwise_iff_getElem]
  intro i j hi hj hij
  have := key (j - i - 1) i (by omega)
  rw [show i + (j - i - 1) + 1 = j by omega, List.getD_eq_getElem?_getD, List.getElem?_eq_getElem hi, List.getD_eq_getElem?_getD, List.getElem?_eq_getElem hj] at this
  exact this
theorem FewestFor_same (t : List WV) (ht : t.length ≤ 2000000) (t2 : ∀ x ∈ t, x.f1.size ≤ 1048576) (a : Int) : ∃ v : List Int × Bool, v.1.length ≤ 8 ∧ Ev (fun k => spec_FewestFor.f k t a) v ∧ Ev (fun k => impl_FewestFor.f k t a) v ∧ (v.2 = true → okWvs t = true ∧ (1 ≤ a ∧ a ≤ 15) ∧ ∃ s : List WV, s.Sublist t ∧ v.1 = s.map (·.f0) ∧ restOf s a = 0 ∧ ∀ s' : List WV, s'.Sublist t → restOf s' a = 0 → v.1.length ≤ s'.length) := by
  unfold spec_FewestFor.f impl_FewestFor.f
  simp only [AreWeavers_eq, few_l11Skills, few_areSkills, Option.bind_some]
  have hg := l11Good_ev t ht t2
  have js : Ev (fun k => spec_FewestFor.j0 k t a true) ([], false) := Ev.step (f := fun _ => some ([], false)) (fun k => by rw [spec_FewestFor.j0, if_pos rfl]) (Ev.now _)
  have ji : Ev (fun k => impl_FewestFor.j0 k t a true) ([], false) := Ev.step (f := fun _ => some ([], false)) (fun k => by rw [impl_FewestFor.j0, if_pos rfl]) (Ev.now _)
  cases hk : okWvs t with
  | false => exact ⟨([], false), by simp, Ev.bind hg (by simp only [hk, Bool.false_eq_true, if_false]; exact js), by simp only [Bool.false_eq_true, if_false]; exact ji, fun h => by cases h⟩
  | true =>
    cases hc : rng a 1 15 with
    | false => exact ⟨([], false), by simp, Ev.bind hg (by simp only [hk, if_true, Bool.not_false]; exact js), by simp only [if_true, Bool.not_false]; exact ji, fun h => by cases h⟩
    | true =>
      obtain ⟨h8, hx⟩ := okWvs_iff t hk
      have ha := (rng_iff _ _ _).1 hc
      obtain ⟨q, hq, hqe⟩ := few_impl t h8 (fun x h => ⟨by have := (hx x h).2.1; omega, (hx x h).2.1.2⟩) a ha
      have e := found_first t a ha (okWvs_pair t hk) (fun x h => ⟨by have := (hx x h).2.1; omega, (hx x h).2.1.2⟩) q hq
      have hs := first_l0 t h8 (fun x h => (hx x h).2.1) a 4 1 (by omega) (by omega)
      rw [← e] at hs
      refine ⟨q, ?_, Ev.bind hg ?_, ?_, fun h => ⟨rfl, ha, ?_⟩⟩
      · rcases hq with ⟨h1, _⟩ | ⟨_, ⟨j, _, h2⟩, _⟩
        · rw [h1]; simp
        · rw [h2, List.length_map]
          have := (pick_sub t j).length_le
          omega
      · simp only [hk, if_true, Bool.not_true]
        exact Ev.step (fun k => by rw [spec_FewestFor.j0, if_neg (by decide)]; rfl) hs
      · simp only [if_true, Bool.not_true]
        exact Ev.step (fun k => by rw [impl_FewestFor.j0, if_neg (by decide)]) hqe
      · rcases hq with ⟨h1, _⟩ | ⟨_, ⟨j, h2, h3⟩, h4⟩
        · rw [h1] at h; cases h
        · refine ⟨pick t j, pick_sub t j, h3, h2, fun s' a' c' => ?_⟩
          obtain ⟨m, hm, hs'⟩ := sub_pick a'
          have := h4 m hm (by rw [hs']; exact c')
          rw [hs'] at this
          rcases this with d | ⟨d, _⟩ <;> rw [List.length_map] at d <;> omega
theorem find_ev (l : List WV) (a : Int) (hl : l.length ≤ 2000000) : ∃ r : Int, r = findI (fun x => decide (x.f0 = a)) l ∧ (r = -1 ∨ (0 ≤ r ∧ r < (l.length : Int))) ∧ Ev (fun k => spec_l11Find.f k l a) r := by
  unfold spec_l11Find.f
  have key : ∀ d i : Nat, i + d = l.length → (∀ j : Nat, j < i → decide ((l.getD j z26).f0 = a) = false) → ∃ r : Int, r = findI (fun x => decide (x.f0 = a)) l ∧ (r = -1 ∨ (0 ≤ r ∧ r < (l.length : Int))) ∧ Ev (fun k => spec_l11Find.l0 k l a (i : Int)) r := by
    intro d
    induction d with
    | zero =>
      intro i hi h
      exact ⟨-1, (findI_miss (fun x : WV => decide (x.f0 = a)) z26 l (fun j hj => h j (by omega))).symm, .inl rfl, Ev.step (f := fun _ => some (-1)) (fun k => by rw [spec_l11Find.l0, if_neg (by omega)]) (Ev.now _)⟩
    | succ d ih =>
      intro i hi h
      have e0 : rd_T26 l (i : Int) = l.getD i z26 := rfl
      by_cases c : (l.getD i z26).f0 = a
      · exact ⟨(i : Int), (findI_hit (fun x : WV => decide (x.f0 = a)) z26 l i (by omega) h (decide_eq_true c)).symm, .inr ⟨by omega, by omega⟩, Ev.step (f := fun _ => some (i : Int)) (fun k => by rw [spec_l11Find.l0, if_pos (by omega), if_pos (by omega), e0, if_pos c]) (Ev.now _)⟩
      · obtain ⟨r, h1, h2, h3⟩ := ih (i + 1) (by omega) (fun j hj => by
          by_cases e : j = i
          · rw [e]; exact decide_eq_false c
          · exact h j (by omega))
        have e : ((i + 1 : Nat) : Int) = (i : Int) + 1 := by omega
        rw [e] at h3
        exact ⟨r, h1, h2, Ev.step (fun k => by rw [spec_l11Find.l0, if_pos (by omega), if_pos (by omega), e0, if_neg c, wrap_id _ (by omega) (by omega)]) h3⟩
  exact key l.length 0 (by omega) (fun j hj => absurd hj (by omega))
theorem with_ev (l : List WV) (hl : l.length ≤ 1048576) (t2 : ∀ x ∈ l, x.f1.size ≤ 1048576) (i : Int) (h0 : 0 ≤ i) (h1 : i < (l.length : Int)) (x : WV) (hx : x.f1.size ≤ 1048576) : Ev (fun k => spec_l11With.f k l i x.f0 x.f1 x.f2 x.f3 x.f4) (if okWvs (l.set i.toNat x) = true then (l.set i.toNat x, true) else ([], false)) := by
  unfold spec_l11With.f
  simp only [Option.bind_some, List.nil_append, List.length_nil, if_pos (show 0 + l.length < 2932031007402 by omega), if_pos h0, if_pos h1]
  refine Ev.bind (l11Good_ev (l.set i.toNat x) (by rw [List.length_set]; omega) (fun y hy => by
    rcases List.mem_or_eq_of_mem_set hy with h | h
    · exact t2 y h
    · rw [h]; exact hx)) ?_
  cases okWvs (l.set i.toNat x) <;> exact Ev.now _
theorem findWeaver_eq (l : List WV) (a : Int) : impl_findWeaver.f l a = some (if okWvs l = true then findI (fun x => decide (x.f0 = a)) l else -1) := by
  unfold impl_findWeaver.f
  rw [AreWeavers_eq, Option.bind_some]
theorem skill_bits : ∀ n : Fin 16, (Go.bits .and .i64 (n.val : Int) 1 = 0 ∨ Go.bits .and .i64 (n.val : Int) 1 = 1) ∧ (Go.bits .and .i64 (n.val : Int) 2 = 0 ∨ Go.bits .and .i64 (n.val : Int) 2 = 2) ∧ (Go.bits .and .i64 (n.val : Int) 4 = 0 ∨ Go.bits .and .i64 (n.val : Int) 4 = 4) ∧ (Go.bits .and .i64 (n.val : Int) 8 = 0 ∨ Go.bits .and .i64 (n.val : Int) 8 = 8) ∧ (1 ≤ Go.bits .or .i64 (n.val : Int) 1 ∧ Go.bits .or .i64 (n.val : Int) 1 ≤ 15) ∧ (1 ≤ Go.bits .or .i64 (n.val : Int) 2 ∧ Go.bits .or .i64 (n.val : Int) 2 ≤ 15) ∧ (1 ≤ Go.bits .or .i64 (n.val : Int) 4 ∧ Go.bits .or .i64 (n.val : Int) 4 ≤ 15) ∧ (1 ≤ Go.bits .or .i64 (n.val : Int) 8 ∧ Go.bits .or .i64 (n.val : Int) 8 ≤ 15) := by decide +kernel
theorem skill_of (x s : Int) (hx : 1 ≤ x ∧ x ≤ 15) (hs : s = 1 ∨ s = 2 ∨ s = 4 ∨ s = 8) : (Go.bits .and .i64 x s = 0 ∨ Go.bits .and .i64 x s = s) ∧ 1 ≤ Go.bits .or .i64 x s ∧ Go.bits .or .i64 x s ≤ 15 := by
  have e : (((⟨x.toNat, by omega⟩ : Fin 16).val : Nat) : Int) = x := by show ((x.toNat : Nat) : Int) = x; omega
  obtain ⟨a1, a2, a4, a8, b1, b2, b4, b8⟩ := skill_bits ⟨x.toNat, by omega⟩
  rw [e] at a1 a2 a4 a8 b1 b2 b4 b8
  rcases hs with rfl | rfl | rfl | rfl
  · exact ⟨a1, b1⟩
  · exact ⟨a2, b2⟩
  · exact ⟨a4, b4⟩
  · exact ⟨a8, b8⟩
theorem okWvs_set (t : List WV) (hk : okWvs t = true) (i : Nat) (hi : i < t.length) (s : Int) (hs : 1 ≤ s ∧ s ≤ 15) : okWvs (t.set i ⟨(t.getD i z26).f0, (t.getD i z26).f1, s, (t.getD i z26).f3, (t.getD i z26).f4⟩) = true := by
  obtain ⟨x, hx⟩ : ∃ x, x = t.getD i z26 := ⟨_, rfl⟩
  rw [← hx]
  unfold okWvs at hk ⊢
  rw [Bool.and_eq_true, Bool.and_eq_true, Bool.and_eq_true, decide_eq_true_iff, all_getD z26, asc_iff idWv z26, all_getD z26] at hk ⊢
  obtain ⟨h1, h2, h3, h4⟩ := hk
  have hget : ∀ j, (t.set i ⟨x.f0, x.f1, s, x.f3, x.f4⟩).getD j z26 = if i = j then ⟨x.f0, x.f1, s, x.f3, x.f4⟩ else t.getD j z26 := fun j => by
    rw [getD_set]
    by_cases e : i = j
    · subst e; rw [if_pos ⟨rfl, hi⟩, if_pos rfl]
    · rw [if_neg (fun h => e h.1), if_neg e]
  have hsit : ∀ a, sitN (t.set i ⟨x.f0, x.f1, s, x.f3, x.f4⟩) a = sitN t a := fun a => by
    unfold sitN
    rw [← List.countP_eq_length_filter, ← List.countP_eq_length_filter, List.countP_set hi]
    have e : t[i] = x := by rw [hx, List.getD_eq_getElem?_getD, List.getElem?_eq_getElem hi]; rfl
    rw [e]
    have hle : (if decide (x.f4 = a) = true then 1 else 0) ≤ List.countP (fun y => decide (y.f4 = a)) t := by
      split
      · rename_i h
        exact List.countP_pos_iff.2 ⟨x, by rw [← e]; exact List.getElem_mem hi, h⟩
      · exact Nat.zero_le _
    exact congrArg Int.ofNat (Nat.sub_add_cancel hle)
  rw [List.length_set]
  refine ⟨h1, fun j hj => ?_, fun j hj => ?_, fun j hj => ?_⟩
  · rw [hget]
    by_cases e : i = j
    · subst e
      rw [if_pos rfl]
      have := h2 i hi
      rw [← hx] at this
      unfold okWv at this ⊢
      simp only [Bool.and_eq_true] at this ⊢
      exact ⟨this.1, this.2.1, (rng_iff _ _ _).2 hs, this.2.2.2.1, this.2.2.2.2⟩
    · rw [if_neg e]; exact h2 j hj
  · have := h3 j hj
    rw [hget, hget]
    have e1 : idWv (if i = j then (⟨x.f0, x.f1, s, x.f3, x.f4⟩ : WV) else t.getD j z26) = idWv (t.getD j z26) := by
      split
      · rename_i e; rw [← e, ← hx]; rfl
      · rfl
    have e2 : idWv (if i = j + 1 then (⟨x.f0, x.f1, s, x.f3, x.f4⟩ : WV) else t.getD (j + 1) z26) = idWv (t.getD (j + 1) z26) := by
      split
      · rename_i e; rw [← e, ← hx]; rfl
      · rfl
    rw [e1, e2]
    exact this
  · rw [hget]
    unfold seatOk
    rw [hsit]
    by_cases e : i = j
    · subst e
      rw [if_pos rfl]
      have := h4 i hi
      rw [← hx] at this
      exact this
    · rw [if_neg e]; exact h4 j hj
theorem isSkill_yes (s : Int) (h : s = 1 ∨ s = 2 ∨ s = 4 ∨ s = 8) : impl_isSkill.f s = some true := by
  unfold impl_isSkill.f
  rcases h with rfl | rfl | rfl | rfl <;> rfl
theorem isSkill_no (s : Int) (h : ¬ (s = 1 ∨ s = 2 ∨ s = 4 ∨ s = 8)) : impl_isSkill.f s = some false := by
  unfold impl_isSkill.f
  rw [if_neg (by omega), if_neg (by omega), if_neg (by omega), beq_eq_false_iff_ne.2 (by omega)]
theorem TeachSkill_same (t : List WV) (ht : t.length ≤ 1048576) (t2 : ∀ x ∈ t, x.f1.size ≤ 1048576) (a b s : Int) : ∃ v : List WV × Bool, v.1.length ≤ t.length ∧ Ev (fun k => spec_TeachSkill.f k t a b s) v ∧ impl_TeachSkill.f t a b s = some v := by
  obtain ⟨r, hr, hb, hf⟩ := find_ev t a (by omega)
  obtain ⟨q, hq, hb2, hf2⟩ := find_ev t b (by omega)
  have hg := l11Good_ev t (by omega) t2
  unfold spec_TeachSkill.f impl_TeachSkill.f
  rw [findWeaver_eq, findWeaver_eq, Option.bind_some, Option.bind_some, ← hr, ← hq]
  cases hk : okWvs t with
  | false =>
    refine ⟨([], false), by simp, Ev.bind hf (Ev.bind hf2 (Ev.bind hg ?_)), ?_⟩
    · simp only [hk, Bool.false_eq_true, if_false]; exact Ev.now _
    · simp only [Bool.false_eq_true, if_false]; rfl
  | true =>
    simp only [if_true]
    by_cases c1 : r < 0
    · exact ⟨([], false), by simp, Ev.bind hf (Ev.bind hf2 (Ev.bind hg (by simp only [hk, if_true, if_pos c1]; exact Ev.now _))), by simp only [if_pos c1]⟩
    by_cases c2 : q < 0
    · exact ⟨([], false), by simp, Ev.bind hf (Ev.bind hf2 (Ev.bind hg (by simp only [hk, if_true, if_neg c1, if_pos c2]; exact Ev.now _))), by simp only [if_neg c1, if_pos c2]⟩
    by_cases c3 : r = q
    · exact ⟨([], false), by simp, Ev.bind hf (Ev.bind hf2 (Ev.bind hg (by simp only [hk, if_true, if_neg c1, if_neg c2, if_pos c3]; exact Ev.now _))), by simp only [if_neg c1, if_neg c2, if_pos c3]⟩
    by_cases hs : s = 1 ∨ s = 2 ∨ s = 4 ∨ s = 8
    · have r0 : 0 ≤ r := by omega
      have r1 : r < (t.length : Int) := by rcases hb with h | h; omega; exact h.2
      have q0 : 0 ≤ q := by omega
      have q1 : q < (t.length : Int) := by rcases hb2 with h | h; omega; exact h.2
      obtain ⟨_, hx⟩ := okWvs_iff t hk
      have hmr : rd_T26 t r ∈ t := getD_mem z26 t r.toNat (by omega)
      have hmq : rd_T26 t q ∈ t := getD_mem z26 t q.toNat (by omega)
      obtain ⟨sk1, _⟩ := skill_of (rd_T26 t r).f2 s (hx _ hmr).2.1 hs
      obtain ⟨_, sk2⟩ := skill_of (rd_T26 t q).f2 s (hx _ hmq).2.1 hs
      have s0 : s ≠ 0 := by omega
      by_cases cb : Go.bits .and .i64 (rd_T26 t r).f2 s = 0
      · refine ⟨([], false), by simp, Ev.bind hf (Ev.bind hf2 (Ev.bind hg ?_)), ?_⟩
        · rcases hs with rfl | rfl | rfl | rfl
          · simp only [hk, if_true, if_neg c1, if_neg c2, if_neg c3, if_pos r0, if_pos r1, if_pos cb]; exact Ev.now _
          · simp only [hk, if_true, if_neg c1, if_neg c2, if_neg c3, if_neg (show ¬ (2 : Int) = 1 by decide), if_pos r0, if_pos r1, if_pos cb]; exact Ev.now _
          · simp only [hk, if_true, if_neg c1, if_neg c2, if_neg c3, if_neg (show ¬ (4 : Int) = 1 by decide), if_neg (show ¬ (4 : Int) = 2 by decide), if_pos r0, if_pos r1, if_pos cb]; exact Ev.now _
          · simp only [hk, if_true, if_neg c1, if_neg c2, if_neg c3, if_neg (show ¬ (8 : Int) = 1 by decide), if_neg (show ¬ (8 : Int) = 2 by decide), if_neg (show ¬ (8 : Int) = 4 by decide), if_pos r0, if_pos r1, if_pos cb]; exact Ev.now _
        · have e : impl_Weaver_has.f (rd_T26 t r).f0 (rd_T26 t r).f1 (rd_T26 t r).f2 (rd_T26 t r).f3 (rd_T26 t r).f4 s = some false := by
            unfold impl_Weaver_has.f
            rw [cb, beq_eq_false_iff_ne.2 (fun h => s0 h.symm)]
          simp only [if_neg c1, if_neg c2, if_neg c3, isSkill_yes s hs, Option.bind_some, if_true, if_pos r0, if_pos r1, e, Bool.false_eq_true, if_false]
      · have cb2 : Go.bits .and .i64 (rd_T26 t r).f2 s = s := sk1.resolve_left cb
        have hw := with_ev t ht t2 q q0 q1 ⟨(rd_T26 t q).f0, (rd_T26 t q).f1, Go.bits .or .i64 (rd_T26 t q).f2 s, (rd_T26 t q).f3, (rd_T26 t q).f4⟩ (show (rd_T26 t q).f1.size ≤ 1048576 from t2 _ hmq)
        have hok : okWvs (t.set q.toNat ⟨(rd_T26 t q).f0, (rd_T26 t q).f1, Go.bits .or .i64 (rd_T26 t q).f2 s, (rd_T26 t q).f3, (rd_T26 t q).f4⟩) = true := okWvs_set t hk q.toNat (by omega) _ sk2
        rw [if_pos hok] at hw
        dsimp only at hw
        have hc : slices_Clone_wv.f t = some t := by unfold slices_Clone_wv.f; rw [if_pos (by omega)]
        refine ⟨(t.set q.toNat ⟨(rd_T26 t q).f0, (rd_T26 t q).f1, Go.bits .or .i64 (rd_T26 t q).f2 s, (rd_T26 t q).f3, (rd_T26 t q).f4⟩, true), Nat.le_of_eq (List.length_set ..), Ev.bind hf (Ev.bind hf2 (Ev.bind hg ?_)), ?_⟩
        · rcases hs with rfl | rfl | rfl | rfl
          · simp only [hk, if_true, if_neg c1, if_neg c2, if_neg c3, if_pos r0, if_pos r1, if_neg cb, if_pos q0, if_pos q1]; exact Ev.bind hw (Ev.now _)
          · simp only [hk, if_true, if_neg c1, if_neg c2, if_neg c3, if_neg (show ¬ (2 : Int) = 1 by decide), if_pos r0, if_pos r1, if_neg cb, if_pos q0, if_pos q1]; exact Ev.bind hw (Ev.now _)
          · simp only [hk, if_true, if_neg c1, if_neg c2, if_neg c3, if_neg (show ¬ (4 : Int) = 1 by decide), if_neg (show ¬ (4 : Int) = 2 by decide), if_pos r0, if_pos r1, if_neg cb, if_pos q0, if_pos q1]; exact Ev.bind hw (Ev.now _)
          · simp only [hk, if_true, if_neg c1, if_neg c2, if_neg c3, if_neg (show ¬ (8 : Int) = 1 by decide), if_neg (show ¬ (8 : Int) = 2 by decide), if_neg (show ¬ (8 : Int) = 4 by decide), if_pos r0, if_pos r1, if_neg cb, if_pos q0, if_pos q1]; exact Ev.bind hw (Ev.now _)
        · have e : impl_Weaver_has.f (rd_T26 t r).f0 (rd_T26 t r).f1 (rd_T26 t r).f2 (rd_T26 t r).f3 (rd_T26 t r).f4 s = some true := by
            unfold impl_Weaver_has.f
            rw [cb2, beq_self_eq_true]
          simp only [if_neg c1, if_neg c2, if_neg c3, isSkill_yes s hs, Option.bind_some, if_true, if_pos r0, if_pos r1, e, hc, if_pos q0, if_pos q1]
    · refine ⟨([], false), by simp, Ev.bind hf (Ev.bind hf2 (Ev.bind hg ?_)), ?_⟩
      · simp only [hk, if_true, if_neg c1, if_neg c2, if_neg c3, if_neg (show ¬ s = 1 by omega), if_neg (show ¬ s = 2 by omega), if_neg (show ¬ s = 4 by omega), if_neg (show ¬ s = 8 by omega)]
        exact Ev.now _
      · simp only [if_neg c1, if_neg c2, if_neg c3, isSkill_no s hs, Option.bind_some, Bool.false_eq_true, if_false]
theorem l11Skills_eq (a : Int) : spec_l11Skills.f a = some (rng a 1 15) := by unfold spec_l11Skills.f; rw [l1In_eq]; rfl
theorem areSkills_eq (a : Int) : impl_areSkills.f a = some (rng a 1 15) := by unfold impl_areSkills.f; rw [in_eq]; rfl
theorem with_two (l : List WV) (hl : l.length ≤ 8) (a : Int) : ∃ r : List Int × Bool, r.1.length ≤ 8 ∧ Ev (fun k => spec_WithSkills.l0 k l a [] 0) r ∧ Ev (fun k => impl_WithSkills.l0 k a [] l (l.length : Int) 0) r := by
  refine Ev.two (fun k i (s : List Int) => spec_WithSkills.l0 k l a s i) (fun k i (s : List Int) => impl_WithSkills.l0 k a s l (l.length : Int) i) l.length (fun i s t => s = t ∧ s.length ≤ i) (fun r => r.1.length ≤ 8)
    (fun s t hs => ?_) (fun i s t hi hs => .inr ?_) [] [] ⟨rfl, by simp⟩
  · obtain ⟨rfl, h1⟩ := hs
    exact ⟨(s, true), by dsimp only; omega, Ev.step (f := fun _ => some (s, true)) (fun k => by rw [spec_WithSkills.l0, if_neg (by omega)]) (Ev.now _), Ev.step (f := fun _ => some (s, true)) (fun k => by rw [impl_WithSkills.l0, if_neg (by omega)]) (Ev.now _)⟩
  · obtain ⟨rfl, h1⟩ := hs
    have e0 : rd_T26 l (i : Int) = l.getD i z26 := rfl
    obtain ⟨x, hxe⟩ : ∃ x, x = l.getD i z26 := ⟨_, rfl⟩
    rw [← hxe] at e0
    by_cases c : Go.bits .and .i64 x.f2 a = a
    · refine ⟨s ++ [x.f0], s ++ [x.f0], ⟨rfl, by rw [List.length_append, List.length_singleton]; omega⟩, fun r h => Ev.step (fun k => ?_) h, fun r h => Ev.step (fun k => ?_) h⟩
      · rw [spec_WithSkills.l0, if_pos (by omega), if_pos (by omega), e0, if_pos c, if_pos (by omega), wrap_id _ (by omega) (by omega)]
      · rw [impl_WithSkills.l0, if_pos (by omega), if_pos (by omega), if_pos (by omega), e0]
        unfold impl_Weaver_has.f
        rw [Option.bind_some, if_pos (beq_iff_eq.2 c), if_pos (by omega), wrap_id _ (by omega) (by omega)]
    · refine ⟨s, s, ⟨rfl, by omega⟩, fun r h => Ev.step (fun k => ?_) h, fun r h => Ev.step (fun k => ?_) h⟩
      · rw [spec_WithSkills.l0, if_pos (by omega), if_pos (by omega), e0, if_neg c, wrap_id _ (by omega) (by omega)]
      · rw [impl_WithSkills.l0, if_pos (by omega), if_pos (by omega), if_pos (by omega), e0]
        unfold impl_Weaver_has.f
        rw [Option.bind_some, if_neg (by rw [beq_iff_eq]; exact c), wrap_id _ (by omega) (by omega)]
theorem WithSkills_same (t : List WV) (ht : t.length ≤ 2000000) (t2 : ∀ x ∈ t, x.f1.size ≤ 1048576) (a : Int) : ∃ v : List Int × Bool, v.1.length ≤ 8 ∧ Ev (fun k => spec_WithSkills.f k t a) v ∧ Ev (fun k => impl_WithSkills.f k t a) v := by
  unfold spec_WithSkills.f impl_WithSkills.f
  simp only [AreWeavers_eq, l11Skills_eq, areSkills_eq, Option.bind_some]
  have hg := l11Good_ev t ht t2
  have js : Ev (fun k => spec_WithSkills.j0 k t a [] true) ([], false) := Ev.step (f := fun _ => some ([], false)) (fun k => by rw [spec_WithSkills.j0, if_pos rfl]) (Ev.now _)
  have ji : Ev (fun k => impl_WithSkills.j0 k t a true) ([], false) := Ev.step (f := fun _ => some ([], false)) (fun k => by rw [impl_WithSkills.j0, if_pos rfl]) (Ev.now _)
  cases hk : okWvs t with
  | false => exact ⟨([], false), by simp, Ev.bind hg (by simp only [hk, Bool.false_eq_true, if_false]; exact js), by simp only [Bool.false_eq_true, if_false]; exact ji⟩
  | true =>
    cases hc : rng a 1 15 with
    | false => exact ⟨([], false), by simp, Ev.bind hg (by simp only [hk, if_true, Bool.not_false]; exact js), by simp only [if_true, Bool.not_false]; exact ji⟩
    | true =>
      obtain ⟨v, hv, ha, hb⟩ := with_two t (okWvs_iff t hk).1 a
      refine ⟨v, hv, Ev.bind hg ?_, ?_⟩
      · simp only [hk, if_true, Bool.not_true]
        exact Ev.step (fun k => by rw [spec_WithSkills.j0, if_neg (by decide)]) ha
      · simp only [if_true, Bool.not_true]
        exact Ev.step (fun k => by rw [impl_WithSkills.j0, if_neg (by decide)]) hb
theorem Ev.uniq {α : Type} {g : Nat → Option α} {a b : α} (h : Ev g a) (k : Ev g b) : a = b := by
  obtain ⟨K1, h1⟩ := h
  obtain ⟨K2, h2⟩ := k
  have e1 := h1 (K1 + K2) (by omega)
  rw [h2 (K1 + K2) (by omega)] at e1
  exact (Option.some.inj e1).symm
theorem findI_at {α : Type} (p : α → Bool) (z : α) (l : List α) : 0 ≤ findI p l → p (l.getD (findI p l).toNat z) = true := by
  induction l with
  | nil => intro h; exact absurd (show (0 : Int) ≤ -1 from h) (by decide)
  | cons x r ih =>
    intro h
    unfold findI at h ⊢
    by_cases c : p x = true
    · rw [if_pos c]; exact c
    · rw [if_neg c] at h ⊢
      by_cases c2 : findI p r < 0
      · rw [if_pos c2] at h; exact absurd h (by decide)
      · rw [if_neg c2]
        have e : (findI p r + 1).toNat = (findI p r).toNat + 1 := by omega
        rw [e, List.getD_cons_succ]
        exact ih (by omega)
theorem filt_map {s t : List WV} (h : s.Sublist t) : t.Pairwise (fun a b => a.f0 < b.f0) → t.filter (fun x => decide (x.f0 ∈ s.map (·.f0))) = s := by
  induction h with
  | slnil => intro _; rfl
  | cons x h ih =>
    rename_i s t
    intro hp
    obtain ⟨h1, h2⟩ := List.pairwise_cons.1 hp
    have hx : x.f0 ∉ s.map (·.f0) := fun hm => by
      obtain ⟨y, hy, e⟩ := List.mem_map.1 hm
      have := h1 y (h.subset hy)
      omega
    rw [List.filter_cons_of_neg (by rw [decide_eq_true_iff]; exact hx)]
    exact ih h2
  | cons_cons x h ih =>
    rename_i s t
    intro hp
    obtain ⟨h1, h2⟩ := List.pairwise_cons.1 hp
    rw [List.filter_cons_of_pos (by rw [decide_eq_true_iff, List.map_cons]; exact List.mem_cons_self ..)]
    congr 1
    refine Eq.trans (List.filter_congr (fun y hy => ?_)) (ih h2)
    have := h1 y hy
    rw [List.map_cons]
    exact decide_eq_decide.2 ⟨fun hm => (List.mem_cons.1 hm).resolve_left (by omega), fun hm => List.mem_cons_of_mem _ hm⟩
theorem filt_take (p : WV → Bool) (l : List WV) (i : Nat) (hi : i < l.length) : (l.take (i + 1)).filter p = (l.take i).filter p ++ (if p (l.getD i z26) = true then [l.getD i z26] else []) := by
  have e : l.getD i z26 = l[i] := by rw [List.getD_eq_getElem?_getD, List.getElem?_eq_getElem hi]; rfl
  rw [List.take_succ_eq_append_getElem hi, List.filter_append, e]
  congr 1
  by_cases c : p l[i] = true
  · rw [if_pos c, List.filter_cons_of_pos c, List.filter_nil]
  · rw [if_neg c, List.filter_cons_of_neg c, List.filter_nil]
theorem allOf_take (p : WV → Bool) (l : List WV) (i : Nat) (hi : i < l.length) : allOf ((l.take (i + 1)).filter p) 0 = if p (l.getD i z26) = true then orI (allOf ((l.take i).filter p) 0) (l.getD i z26).f2 else allOf ((l.take i).filter p) 0 := by
  rw [filt_take p l i hi]
  unfold allOf
  rw [List.foldl_append]
  split <;> rfl
def pSk (a : Int) (x : WV) : Bool := decide (Go.bits .and .i64 x.f2 a = a)
theorem with_val (l : List WV) (hl : l.length ≤ 8) (a : Int) : Ev (fun k => spec_WithSkills.l0 k l a [] 0) ((l.filter (pSk a)).map (·.f0), true) := by
  obtain ⟨r, hr, h⟩ := Ev.loopE (fun k i (s : List Int) => spec_WithSkills.l0 k l a s i) l.length (fun i s => s = ((l.take i).filter (pSk a)).map (·.f0)) (fun r => r = ((l.filter (pSk a)).map (·.f0), true))
    (fun s hs => ⟨(s, true), by rw [hs, List.take_length], Ev.step (f := fun _ => some (s, true)) (fun k => by rw [spec_WithSkills.l0, if_neg (by omega)]) (Ev.now _)⟩)
    (fun i s hi hs => by
      have hsl : s.length ≤ 8 := by
        rw [hs, List.length_map]
        exact Nat.le_trans (List.length_filter_le _ _) (by rw [List.length_take]; omega)
      have e0 : rd_T26 l (i : Int) = l.getD i z26 := rfl
      by_cases c : Go.bits .and .i64 (l.getD i z26).f2 a = a
      · refine ⟨s ++ [(l.getD i z26).f0], ?_, fun r h => Ev.step (fun k => ?_) h⟩
        · rw [filt_take _ l i hi, if_pos (show pSk a _ = true from decide_eq_true c), List.map_append, ← hs]; rfl
        · rw [spec_WithSkills.l0, if_pos (by omega), if_pos (by omega), e0, if_pos c, if_pos (by omega), wrap_id _ (by omega) (by omega)]
      · refine ⟨s, ?_, fun r h => Ev.step (fun k => ?_) h⟩
        · rw [filt_take _ l i hi, if_neg (show ¬ pSk a _ = true from fun h => c (of_decide_eq_true h)), List.append_nil, ← hs]
        · rw [spec_WithSkills.l0, if_pos (by omega), if_pos (by omega), e0, if_neg c, wrap_id _ (by omega) (by omega)]) [] (by rw [List.take_zero]; rfl)
  subst hr
  exact h
theorem WithSkills_val (t : List WV) (ht : t.length ≤ 2000000) (t2 : ∀ x ∈ t, x.f1.size ≤ 1048576) (a : Int) (hk : okWvs t = true) (hc : rng a 1 15 = true) : Ev (fun k => spec_WithSkills.f k t a) ((t.filter (pSk a)).map (·.f0), true) := by
  unfold spec_WithSkills.f
  simp only [l11Skills_eq, Option.bind_some]
  refine Ev.bind (l11Good_ev t ht t2) ?_
  simp only [hk, if_true, hc, Bool.not_true]
  exact Ev.step (fun k => by rw [spec_WithSkills.j0, if_neg (by decide)]) (with_val t (okWvs_iff t hk).1 a)
theorem few_or : ∀ x : Fin 16, Go.bits .and .i64 (Go.bits .or .i64 (x.val : Int) 1) 1 = 1 ∧ Go.bits .and .i64 (Go.bits .or .i64 (x.val : Int) 2) 2 = 2 ∧ Go.bits .and .i64 (Go.bits .or .i64 (x.val : Int) 4) 4 = 4 ∧ Go.bits .and .i64 (Go.bits .or .i64 (x.val : Int) 8) 8 = 8 := by decide +kernel
theorem few_or' (x s : Int) (hx : 0 ≤ x ∧ x ≤ 15) (hs : s = 1 ∨ s = 2 ∨ s = 4 ∨ s = 8) : Go.bits .and .i64 (Go.bits .or .i64 x s) s = s := by
  obtain ⟨a1, a2, a4, a8⟩ := few_or (f16 x hx)
  rw [f16_val] at a1 a2 a4 a8
  rcases hs with rfl | rfl | rfl | rfl
  · exact a1
  · exact a2
  · exact a4
  · exact a8
theorem Teach_facts (t : List WV) (a b s : Int) (v : List WV × Bool) (h : impl_TeachSkill.f t a b s = some v) (h2 : v.2 = true) : okWvs v.1 = true ∧ v.1.length = t.length ∧ (∀ x ∈ v.1, ∃ y ∈ t, x.f1 = y.f1) ∧ rng s 1 15 = true ∧ a ∈ (v.1.filter (pSk s)).map (·.f0) ∧ b ∈ (v.1.filter (pSk s)).map (·.f0) := by
  unfold impl_TeachSkill.f at h
  rw [findWeaver_eq, findWeaver_eq, Option.bind_some, Option.bind_some] at h
  have no : ∀ o : Option (List WV × Bool), o = some ([], false) → o = some v → False := fun o e1 e2 => by
    rw [e1] at e2
    rw [← Option.some.inj e2] at h2
    cases h2
  cases hk : okWvs t with
  | false =>
    simp only [hk, Bool.false_eq_true, if_false] at h
    exact (no _ rfl h).elim
  | true =>
    simp only [hk, if_true] at h
    obtain ⟨r, hr⟩ : ∃ r, r = findI (fun x : WV => decide (x.f0 = a)) t := ⟨_, rfl⟩
    obtain ⟨q, hq⟩ : ∃ q, q = findI (fun x : WV => decide (x.f0 = b)) t := ⟨_, rfl⟩
    rw [← hr, ← hq] at h
    by_cases c1 : r < 0
    · rw [if_pos c1] at h; exact (no _ rfl h).elim
    by_cases c2 : q < 0
    · rw [if_neg c1, if_pos c2] at h; exact (no _ rfl h).elim
    by_cases c3 : r = q
    · rw [if_neg c1, if_neg c2, if_pos c3] at h; exact (no _ rfl h).elim
    rw [if_neg c1, if_neg c2, if_neg c3] at h
    by_cases hs : s = 1 ∨ s = 2 ∨ s = 4 ∨ s = 8
    · rw [isSkill_yes s hs, Option.bind_some, if_pos rfl] at h
      have r0 : 0 ≤ r := by omega
      have q0 : 0 ≤ q := by omega
      by_cases r1 : r < (t.length : Int)
      · rw [if_pos r0, if_pos r1] at h
        unfold impl_Weaver_has.f at h
        rw [Option.bind_some] at h
        by_cases cb : Go.bits .and .i64 (rd_T26 t r).f2 s = s
        · rw [if_pos (beq_iff_eq.2 cb)] at h
          cases hcl : slices_Clone_wv.f t with
          | none => rw [hcl] at h; cases h
          | some u =>
            have hu : u = t := by
              unfold slices_Clone_wv.f at hcl
              split at hcl
              · exact (Option.some.inj hcl).symm
              · cases hcl
            subst hu
            rw [hcl, Option.bind_some, if_pos q0] at h
            by_cases q1 : q < (u.length : Int)
            · rw [if_pos q1] at h
              have hv := (Option.some.inj h).symm
              obtain ⟨_, hx⟩ := okWvs_iff u hk
              have fr : (u.getD r.toNat z26).f0 = a := by
                have := findI_at (fun x : WV => decide (x.f0 = a)) z26 u (by rw [← hr]; exact r0)
                rw [← hr] at this
                exact of_decide_eq_true this
              have fq : (u.getD q.toNat z26).f0 = b := by
                have := findI_at (fun x : WV => decide (x.f0 = b)) z26 u (by rw [← hq]; exact q0)
                rw [← hq] at this
                exact of_decide_eq_true this
              have hmq : u.getD q.toNat z26 ∈ u := getD_mem z26 u q.toNat (by omega)
              obtain ⟨_, sk2⟩ := skill_of (u.getD q.toNat z26).f2 s (hx _ hmq).2.1 hs
              obtain ⟨y, hy⟩ : ∃ y : WV, y = ⟨(u.getD q.toNat z26).f0, (u.getD q.toNat z26).f1, Go.bits .or .i64 (u.getD q.toNat z26).f2 s, (u.getD q.toNat z26).f3, (u.getD q.toNat z26).f4⟩ := ⟨_, rfl⟩
              have hok := okWvs_set u hk q.toNat (by omega) _ sk2
              rw [← hy] at hok
              have hv2 : v = (u.set q.toNat y, true) := by rw [hv, hy]; rfl
              subst hv2
              have hyq : y ∈ u.set q.toNat y := by
                rw [List.mem_iff_getElem]
                exact ⟨q.toNat, by rw [List.length_set]; omega, by rw [List.getElem_set_self]⟩
              have hyr : u.getD r.toNat z26 ∈ u.set q.toNat y := by
                rw [List.mem_iff_getElem]
                refine ⟨r.toNat, by rw [List.length_set]; omega, ?_⟩
                rw [List.getElem_set_ne (by omega), List.getD_eq_getElem?_getD, List.getElem?_eq_getElem (by omega)]
                rfl
              refine ⟨hok, List.length_set .., fun x hx' => ?_, (rng_iff _ _ _).2 (by omega), ?_, ?_⟩
              · rcases List.mem_or_eq_of_mem_set hx' with e | e
                · exact ⟨x, e, rfl⟩
                · exact ⟨_, hmq, by rw [e, hy]⟩
              · exact List.mem_map.2 ⟨_, List.mem_filter.2 ⟨hyr, decide_eq_true cb⟩, fr⟩
              · refine List.mem_map.2 ⟨y, List.mem_filter.2 ⟨hyq, decide_eq_true ?_⟩, by rw [hy]; exact fq⟩
                rw [hy]
                exact few_or' _ s (by have := (hx _ hmq).2.1; omega) hs
            · rw [if_neg q1] at h; cases h
        · rw [if_neg (by rw [beq_iff_eq]; exact cb)] at h
          exact (no _ rfl h).elim
      · rw [if_pos r0, if_neg r1] at h; cases h
    · rw [isSkill_no s hs, Option.bind_some, if_neg (by decide)] at h
      exact (no _ rfl h).elim
theorem IsWeaver_same (x : WV) (hx : x.f1.size ≤ 1000) : ∃ b : Bool, impl_IsWeaver.f x.f0 x.f1 x.f2 x.f3 x.f4 = some b ∧ Ev (fun k => spec_IsWeaver.f k x.f0 x.f1 x.f2 x.f3 x.f4) b := by
  refine ⟨okWv x, impl_IsWeaver.total x, ?_⟩
  unfold spec_IsWeaver.f
  exact Ev.bind (l11One_ev x (by omega)) (Ev.now _)
theorem low8 (y : Int) : 0 ≤ Go.bits .and .u64 y 255 ∧ Go.bits .and .u64 y 255 ≤ 255 := by
  have h : ((BitVec.ofInt 64 y) &&& (BitVec.ofInt 64 255)).toNat ≤ 255 := by
    rw [BitVec.toNat_and]
    exact Nat.le_trans Nat.and_le_right (by decide)
  have e : Go.bits .and .u64 y 255 = IntKind.u64.wrap ((((BitVec.ofInt 64 y) &&& (BitVec.ofInt 64 255)).toNat : Nat) : Int) := rfl
  have e2 : ∀ n : Nat, n ≤ 255 → IntKind.u64.wrap (n : Int) = (n : Int) := fun n hn => by
    show (n : Int) % 18446744073709551616 = (n : Int)
    omega
  rw [e, e2 _ h]
  omega
def codeOk (code : List Int) : Prop := code.length ≤ 70000 ∧ ∀ i : Int, 0 ≤ rd code i ∧ rd code i ≤ 255
theorem codeOk_of (code : List Int) (hl : code.length ≤ 70000) (h : ∀ x ∈ code, (Lit.int .u8 x).wf = true) : codeOk code := by
  refine ⟨hl, fun i => ?_⟩
  unfold rd
  rw [List.getD_eq_getElem?_getD]
  by_cases c : i.toNat < code.length
  · rw [List.getElem?_eq_getElem c]
    have := h _ (List.getElem_mem c)
    have h3 : (decide (IntKind.u8.min ≤ code[i.toNat]) && decide (code[i.toNat] ≤ IntKind.u8.max)) = true := this
    rw [Bool.and_eq_true, decide_eq_true_iff, decide_eq_true_iff, show IntKind.u8.min = 0 by decide, show IntKind.u8.max = 255 by decide] at h3
    exact h3
  · rw [List.getElem?_eq_none (by omega)]
    exact ⟨by decide, by decide⟩
theorem next_ok (code : List Int) (hc : codeOk code) (at_ seed : Int) (h0 : 0 ≤ at_) (h1 : at_ ≤ 1000000) : ∃ x s, spec_l1Cur_next.f code at_ seed = some (x, at_ + 1, s) ∧ 0 ≤ x ∧ x ≤ 255 := by
  have hw : wrap64 (at_ + 1) = at_ + 1 := wrap_id _ (by omega) (by omega)
  have hb := hc.2 at_
  unfold spec_l1Cur_next.f
  rw [hw]
  by_cases c : at_ < (code.length : Int)
  · rw [if_pos c, if_pos h0, if_pos (by omega)]
    exact ⟨_, _, rfl, by rw [wrap_id _ (by omega) (by omega)]; exact hb⟩
  · rw [if_neg c, if_neg (by omega)]
    refine ⟨_, _, rfl, ?_⟩
    have := low8 ((IntKind.u64.wrap ((IntKind.u64.wrap ((IntKind.u64.wrap (seed * 6364136223846793005)))) + 102323)) / 1099511627776)
    rw [wrap_id _ (by omega) (by omega)]
    exact this
theorem pick_ok (code : List Int) (hc : codeOk code) (at_ seed n : Int) (h0 : 0 ≤ at_) (h1 : at_ ≤ 900000) (hn : n ≤ 1000000) : ∃ x a s, spec_l1Cur_pick.f code at_ seed n = some (x, a, s) ∧ 0 ≤ x ∧ (x < n ∨ x = 0) ∧ at_ ≤ a ∧ a ≤ at_ + 2 := by
  unfold spec_l1Cur_pick.f
  by_cases c : n ≤ 1
  · exact ⟨0, at_, seed, by rw [if_pos c], by omega, .inr rfl, by omega, by omega⟩
  · rw [if_neg c]
    obtain ⟨x, s, e, x0, x1⟩ := next_ok code hc at_ seed h0 (by omega)
    rw [e, Option.bind_some]
    dsimp only
    by_cases c2 : n > 200
    · rw [if_pos c2]
      obtain ⟨y, s2, e2, y0, y1⟩ := next_ok code hc (at_ + 1) s (by omega) (by omega)
      rw [e2, Option.bind_some, if_neg (by omega)]
      dsimp only
      rw [wrap_id (x * 256) (by omega) (by omega), wrap_id (x * 256 + y) (by omega) (by omega)]
      exact ⟨_, _, _, rfl, Int.tmod_nonneg _ (by omega), .inl (Int.tmod_lt_of_pos _ (by omega)), by omega, by omega⟩
    · rw [if_neg c2, if_neg (by omega)]
      exact ⟨_, _, _, rfl, Int.tmod_nonneg _ x0, .inl (Int.tmod_lt_of_pos _ (by omega)), by omega, by omega⟩
theorem among_ok (code : List Int) (hc : codeOk code) (at_ seed : Int) (l : List Int) (hl : 0 < l.length ∧ l.length ≤ 1000) (h0 : 0 ≤ at_) (h1 : at_ ≤ 900000) : ∃ x a s, spec_l1Cur_among.f code at_ seed l = some (x, a, s) ∧ x ∈ l ∧ at_ ≤ a ∧ a ≤ at_ + 2 := by
  unfold spec_l1Cur_among.f
  obtain ⟨x, a, s, e, x0, x1, a0, a1⟩ := pick_ok code hc at_ seed (l.length : Int) h0 h1 (by omega)
  rw [e, Option.bind_some]
  dsimp only
  have hx : x < (l.length : Int) := by omega
  rw [if_pos x0, if_pos hx]
  refine ⟨_, a, s, rfl, ?_, a0, a1⟩
  show l.getD x.toNat 0 ∈ l
  rw [List.getD_eq_getElem?_getD, List.getElem?_eq_getElem (by omega)]
  exact List.getElem_mem (by omega)
theorem one_ok (code : List Int) (hc : codeOk code) (at_ seed n : Int) (h0 : 0 ≤ at_) (h1 : at_ ≤ 900000) (hn : n ≤ 1000000) : ∃ x a s, spec_l1Cur_one.f code at_ seed n = some (x, a, s) ∧ at_ ≤ a ∧ a ≤ at_ + 2 := by
  unfold spec_l1Cur_one.f
  obtain ⟨x, a, s, e, _, _, a0, a1⟩ := pick_ok code hc at_ seed n h0 h1 hn
  rw [e, Option.bind_some]
  exact ⟨_, a, s, rfl, a0, a1⟩
theorem cut_ok (code : List Int) (hc : codeOk code) (at_ seed : Int) (y : List Int) (b : Int) (hb : 1 ≤ b ∧ b + 2 ≤ (y.length : Int)) (hy : y.length ≤ 1000) (h0 : 0 ≤ at_) (h1 : at_ ≤ 800000) : ∃ x a s v c t, spec_l1Cur_pick.f code at_ seed 24 = some (x, a, s) ∧ wrap64 (b + wrap64 (Int.tdiv x 11)) = c ∧ 0 ≤ c ∧ c ≤ (y.length : Int) ∧ (∃ a2, spec_l1Cur_among.f code a s (y.take c.toNat) = some (v, a2, t) ∧ at_ ≤ a2 ∧ a2 ≤ at_ + 4) := by
  obtain ⟨x, a, s, e, x0, x1, a0, a1⟩ := pick_ok code hc at_ seed 24 h0 (by omega) (by omega)
  have hd0 : 0 ≤ Int.tdiv x 11 := Int.tdiv_nonneg x0 (by decide)
  have hd1 : Int.tdiv x 11 ≤ 2 := by
    rw [Int.tdiv_eq_ediv_of_nonneg x0]
    omega
  have ew : wrap64 (b + wrap64 (Int.tdiv x 11)) = b + Int.tdiv x 11 := by
    rw [wrap_id (Int.tdiv x 11) (by omega) (by omega), wrap_id _ (by omega) (by omega)]
  have hlen : (y.take (b + Int.tdiv x 11).toNat).length = (b + Int.tdiv x 11).toNat := by rw [List.length_take]; omega
  obtain ⟨v, a2, t, e2, _, b0, b1⟩ := among_ok code hc a s (y.take (b + Int.tdiv x 11).toNat) ⟨by omega, by omega⟩ (by omega) (by omega)
  exact ⟨x, a, s, v, b + Int.tdiv x 11, t, e, ew, by omega, by omega, a2, e2, by omega, by omega⟩
theorem of_ok (code : List Int) (hc : codeOk code) (at_ seed : Int) (l : List ByteArray) (hl : 0 < l.length ∧ l.length ≤ 1000) (h0 : 0 ≤ at_) (h1 : at_ ≤ 900000) : ∃ x a s, spec_l1Cur_of.f code at_ seed l = some (x, a, s) ∧ x ∈ l ∧ at_ ≤ a ∧ a ≤ at_ + 2 := by
  unfold spec_l1Cur_of.f
  obtain ⟨x, a, s, e, x0, x1, a0, a1⟩ := pick_ok code hc at_ seed (l.length : Int) h0 h1 (by omega)
  rw [e, Option.bind_some]
  dsimp only
  have hx : x < (l.length : Int) := by omega
  rw [if_pos x0, if_pos hx]
  refine ⟨_, a, s, rfl, ?_, a0, a1⟩
  show l.getD x.toNat ByteArray.empty ∈ l
  rw [List.getD_eq_getElem?_getD, List.getElem?_eq_getElem (by omega)]
  exact List.getElem_mem (by omega)
theorem weaver_ok (code : List Int) (hc : codeOk code) (at_ seed id : Int) (h0 : 0 ≤ at_) (h1 : at_ ≤ 800000) : ∃ i n k v m p s, spec_l1Cur_weaver.f code at_ seed id = some (i, n, k, v, m, p, s) ∧ n.size ≤ 100 ∧ at_ ≤ p ∧ p ≤ at_ + 12 := by
  obtain ⟨n1, p1, s1, e1, m1, u1, v1⟩ := of_ok code hc at_ seed [(⟨#[97, 121, 115, 101]⟩ : ByteArray), (⟨#[100, 105, 108, 101, 107]⟩ : ByteArray), (⟨#[111, 109, 105, 100]⟩ : ByteArray)] ⟨by decide, by decide⟩ h0 (by omega)
  have z1 : n1.size ≤ 100 := by
    rcases List.mem_cons.1 m1 with rfl | m1
    · decide
    · rcases List.mem_cons.1 m1 with rfl | m1
      · decide
      · rcases List.mem_cons.1 m1 with rfl | m1
        · decide
        · cases m1
  obtain ⟨x2, p2, s2, e2, _, u2, v2⟩ := among_ok code hc p1 s1 [1, 1, 2, 3, 5, 8, 15] (by decide) (by omega) (by omega)
  obtain ⟨x3, p3, s3, e3, _, u3, v3⟩ := among_ok code hc p2 s2 [100, 6000, 6000, 7500, 12000] (by decide) (by omega) (by omega)
  obtain ⟨x4, p4, s4, e4, _, u4, v4⟩ := among_ok code hc p3 s3 [0, 0, 3, 3, 4, 99] (by decide) (by omega) (by omega)
  obtain ⟨x, q, s, f, x0, xx, q0, q1⟩ := pick_ok code hc p4 s4 70 (by omega) (by omega) (by omega)
  obtain ⟨y0, b0, t0, f0, _, w0, g0⟩ := among_ok code hc q s [0, 99, 100] (by decide) (by omega) (by omega)
  obtain ⟨y1, b1, t1, f1, my, w1, g1⟩ := of_ok code hc q s [(⟨#[]⟩ : ByteArray), (⟨#[65]⟩ : ByteArray), (⟨#[97, 98, 99, 100, 101, 102, 103, 104, 105, 106, 107]⟩ : ByteArray)] ⟨by decide, by decide⟩ (by omega) (by omega)
  have z2 : y1.size ≤ 100 := by
    rcases List.mem_cons.1 my with rfl | my
    · decide
    · rcases List.mem_cons.1 my with rfl | my
      · decide
      · rcases List.mem_cons.1 my with rfl | my
        · decide
        · cases my
  obtain ⟨y2, b2, t2, f2, _, w2, g2⟩ := among_ok code hc q s [0, 16] (by decide) (by omega) (by omega)
  obtain ⟨y3, b3, t3, f3, _, w3, g3⟩ := among_ok code hc q s [99, 12001] (by decide) (by omega) (by omega)
  obtain ⟨y4, b4, t4, f4, _, w4, g4⟩ := among_ok code hc q s [(-1), 100] (by decide) (by omega) (by omega)
  unfold spec_l1Cur_weaver.f
  simp only [e1, e2, e3, e4, f, Option.bind_some]
  by_cases c0 : x = 0
  · simp only [if_pos c0, f0, Option.bind_some]
    exact ⟨_, _, _, _, _, _, _, rfl, z1, by omega, by omega⟩
  · simp only [if_neg c0]
    by_cases c1 : x = 1
    · simp only [if_pos c1, f1, Option.bind_some]
      exact ⟨_, _, _, _, _, _, _, rfl, z2, by omega, by omega⟩
    · simp only [if_neg c1]
      by_cases c2 : x = 2
      · simp only [if_pos c2, f2, Option.bind_some]
        exact ⟨_, _, _, _, _, _, _, rfl, z1, by omega, by omega⟩
      · simp only [if_neg c2]
        by_cases c3 : x = 3
        · simp only [if_pos c3, f3, Option.bind_some]
          exact ⟨_, _, _, _, _, _, _, rfl, z1, by omega, by omega⟩
        · simp only [if_neg c3]
          by_cases c4 : x = 4
          · simp only [if_pos c4, f4, Option.bind_some]
            exact ⟨_, _, _, _, _, _, _, rfl, z1, by omega, by omega⟩
          · simp only [if_neg c4]
            exact ⟨_, _, _, _, _, _, _, rfl, z1, by omega, by omega⟩
def Sz (l : List WV) : Prop := ∀ x ∈ l, x.f1.size ≤ 100
theorem Sz_add (l : List WV) (h : Sz l) (x : WV) (hx : x.f1.size ≤ 100) : Sz (l ++ [x]) := by
  intro y hy
  rcases List.mem_append.1 hy with h1 | h1
  · exact h y h1
  · rw [List.mem_singleton.1 h1]; exact hx
theorem Sz_nil : Sz [] := fun _ h => by cases h
theorem weavers_l1 (code : List Int) (hc : codeOk code) (d : Nat) : ∀ (i : Nat) (xs : List WV) (at_ seed : Int), xs.length = i → i + d = 10 → Sz xs → 0 ≤ at_ → at_ + 10 * (d : Int) ≤ 500000 → ∃ (ys : List WV) (p s : Int), (ys.length ≤ 20 ∧ Sz ys) ∧ (at_ ≤ p ∧ p ≤ at_ + 10 * (d : Int) + 10) ∧ Ev (fun k => spec_l1Cur_weavers.l1 k xs (i : Int) code at_ seed) (ys, p, s) := by
  induction d with
  | zero =>
    intro i xs at_ seed hx hi hz a0 a1
    obtain ⟨t, p, s, e, t0, t1, u, v⟩ := pick_ok code hc at_ seed 2 a0 (by omega) (by omega)
    refine ⟨xs, p, s, ⟨by omega, hz⟩, ⟨by omega, by omega⟩, Ev.step (f := fun _ => some (xs, p, s)) (fun k => ?_) (Ev.now _)⟩
    rw [spec_l1Cur_weavers.l1, e, Option.bind_some]
    dsimp only
    rw [wrap_id (8 + t) (by omega) (by omega), if_neg (by omega)]
  | succ d ih =>
    intro i xs at_ seed hx hi hz a0 a1
    obtain ⟨t, p, s, e, t0, t1, u, v⟩ := pick_ok code hc at_ seed 2 a0 (by omega) (by omega)
    by_cases c : (i : Int) < 8 + t
    · obtain ⟨ys, p2, s2, g1, g2, g3⟩ := ih (i + 1) (xs ++ [⟨wrap64 ((i : Int) + 1), (⟨#[120]⟩ : ByteArray), 1, 500, 0⟩]) p s (by rw [List.length_append, List.length_singleton]; omega) (by omega) (Sz_add xs hz _ (by show (⟨#[120]⟩ : ByteArray).size ≤ 100; decide)) (by omega) (by omega)
      rw [show ((i + 1 : Nat) : Int) = (i : Int) + 1 by omega] at g3
      refine ⟨ys, p2, s2, g1, ⟨by omega, by omega⟩, Ev.step (fun k => ?_) g3⟩
      rw [spec_l1Cur_weavers.l1, e, Option.bind_some]
      dsimp only
      rw [wrap_id (8 + t) (by omega) (by omega), if_pos c, if_pos (by omega), wrap_id ((i : Int) + 1) (by omega) (by omega)]
    · refine ⟨xs, p, s, ⟨by omega, hz⟩, ⟨by omega, by omega⟩, Ev.step (f := fun _ => some (xs, p, s)) (fun k => ?_) (Ev.now _)⟩
      rw [spec_l1Cur_weavers.l1, e, Option.bind_some]
      dsimp only
      rw [wrap_id (8 + t) (by omega) (by omega), if_neg c]
theorem weavers_l0 (code : List Int) (hc : codeOk code) (n : Nat) : ∀ (xs : List WV) (id at_ seed : Int), xs.length + n ≤ 7 → Sz xs → 0 ≤ at_ → at_ + 20 * (n : Int) ≤ 1000 → ∃ (ys : List WV) (p s : Int), (ys.length ≤ 20 ∧ Sz ys) ∧ (0 ≤ p ∧ p ≤ 2000) ∧ Ev (fun k => spec_l1Cur_weavers.l0 k xs id (n : Int) code at_ seed) (ys, p, s) := by
  induction n with
  | zero =>
    intro xs id at_ seed hx hz a0 a1
    obtain ⟨o, p, s, e, u, v⟩ := one_ok code hc at_ seed 24 a0 (by omega) (by omega)
    cases o with
    | true =>
      obtain ⟨ys, p2, s2, g1, g2, g3⟩ := weavers_l1 code hc 10 0 [] p s rfl (by omega) Sz_nil (by omega) (by omega)
      refine ⟨ys, p2, s2, g1, ⟨by omega, by omega⟩, Ev.step (fun k => ?_) g3⟩
      rw [spec_l1Cur_weavers.l0, if_neg (by omega), e, Option.bind_some]
      dsimp only
      rw [if_pos rfl]
      rfl
    | false =>
      refine ⟨xs, p, s, ⟨by omega, hz⟩, ⟨by omega, by omega⟩, Ev.step (f := fun _ => some (xs, p, s)) (fun k => ?_) (Ev.now _)⟩
      rw [spec_l1Cur_weavers.l0, if_neg (by omega), e, Option.bind_some]
      dsimp only
      rw [if_neg (by decide)]
  | succ n ih =>
    intro xs id at_ seed hx hz a0 a1
    obtain ⟨x, p1, s1, e1, _, _, u1, v1⟩ := pick_ok code hc at_ seed 3 a0 (by omega) (by omega)
    obtain ⟨a, b, c, d, e, p2, s2, e2, zb, u2, v2⟩ := weaver_ok code hc p1 s1 (wrap64 ((wrap64 (id + 1)) + x)) (by omega) (by omega)
    obtain ⟨o, p3, s3, e3, u3, v3⟩ := one_ok code hc p2 s2 30 (by omega) (by omega) (by omega)
    have hz2 := Sz_add xs hz ⟨a, b, c, d, e⟩ zb
    have hl2 : (xs ++ [(⟨a, b, c, d, e⟩ : WV)]).length = xs.length + 1 := by rw [List.length_append, List.length_singleton]
    have hg := l11Good_ev (xs ++ [⟨a, b, c, d, e⟩]) (by omega) (fun y hy => Nat.le_trans (hz2 y hy) (by decide))
    have en : ((n + 1 : Nat) : Int) - 1 = (n : Int) := by omega
    have ew : wrap64 (((n + 1 : Nat) : Int) - 1) = (n : Int) := by rw [wrap_id (((n + 1 : Nat) : Int) - 1) (by omega) (by omega), en]
    have st : ∀ r : List WV × Int × Int, Ev (fun k => if okWvs (xs ++ [⟨a, b, c, d, e⟩]) = true then (spec_l1Cur_weavers.l0 k (xs ++ [⟨a, b, c, d, e⟩]) (wrap64 ((wrap64 (id + 1)) + x)) (n : Int) code p2 s2) else (if o = true then (spec_l1Cur_weavers.l0 k (xs ++ [⟨a, b, c, d, e⟩]) (wrap64 ((wrap64 (id + 1)) + x)) (n : Int) code p3 s3) else (spec_l1Cur_weavers.l0 k xs (wrap64 ((wrap64 (id + 1)) + x)) (n : Int) code p3 s3))) r →
        Ev (fun k => spec_l1Cur_weavers.l0 k xs id ((n + 1 : Nat) : Int) code at_ seed) r := by
      intro r hr
      refine Ev.step (f := fun k => (spec_l11Good.f k (xs ++ [⟨a, b, c, d, e⟩])).bind fun t => (if t = true then (spec_l1Cur_weavers.l0 k (xs ++ [⟨a, b, c, d, e⟩]) (wrap64 ((wrap64 (id + 1)) + x)) (n : Int) code p2 s2) else (if o = true then (spec_l1Cur_weavers.l0 k (xs ++ [⟨a, b, c, d, e⟩]) (wrap64 ((wrap64 (id + 1)) + x)) (n : Int) code p3 s3) else (spec_l1Cur_weavers.l0 k xs (wrap64 ((wrap64 (id + 1)) + x)) (n : Int) code p3 s3)))) (fun k => ?_) (Ev.bind hg hr)
      rw [spec_l1Cur_weavers.l0, if_pos (by omega), e1]
      simp only [Option.bind_some, List.nil_append, List.length_nil, Nat.zero_add, if_pos (show xs.length < 2932031007402 by omega), e2, e3, ew]
    cases hk : okWvs (xs ++ [⟨a, b, c, d, e⟩]) with
    | true =>
      obtain ⟨ys, p4, s4, g1, g2, g3⟩ := ih (xs ++ [⟨a, b, c, d, e⟩]) (wrap64 ((wrap64 (id + 1)) + x)) p2 s2 (by omega) hz2 (by omega) (by omega)
      exact ⟨ys, p4, s4, g1, g2, st _ (by simp only [hk, if_true]; exact g3)⟩
    | false =>
      cases o with
      | true =>
        obtain ⟨ys, p4, s4, g1, g2, g3⟩ := ih (xs ++ [⟨a, b, c, d, e⟩]) (wrap64 ((wrap64 (id + 1)) + x)) p3 s3 (by omega) hz2 (by omega) (by omega)
        exact ⟨ys, p4, s4, g1, g2, st _ (by simp only [hk, if_true, Bool.false_eq_true, if_false]; exact g3)⟩
      | false =>
        obtain ⟨ys, p4, s4, g1, g2, g3⟩ := ih xs (wrap64 ((wrap64 (id + 1)) + x)) p3 s3 (by omega) hz (by omega) (by omega)
        exact ⟨ys, p4, s4, g1, g2, st _ (by simp only [hk, Bool.false_eq_true, if_false]; exact g3)⟩
theorem weavers_ok (code : List Int) (hc : codeOk code) : ∃ (l : List WV) (p s : Int), (l.length ≤ 20 ∧ Sz l) ∧ (0 ≤ p ∧ p ≤ 2000) ∧ Ev (fun k => spec_l1Cur_weavers.f k code 0 0) (l, p, s) := by
  obtain ⟨n, p, s, e, n0, n1, u, v⟩ := pick_ok code hc 0 0 7 (by omega) (by omega) (by omega)
  obtain ⟨m, rfl⟩ := Int.eq_ofNat_of_zero_le n0
  obtain ⟨l, p2, s2, g1, g2, g3⟩ := weavers_l0 code hc m [] 0 p s (by simp; omega) Sz_nil (by omega) (by omega)
  refine ⟨l, p2, s2, g1, g2, ?_⟩
  unfold spec_l1Cur_weavers.f
  simp only [e, Option.bind_some]
  exact g3
theorem weaverId_j0 (code : List Int) (hc : codeOk code) (l : List WV) (o : Bool) (at_ seed : Int) (hl : l.length ≤ 20) (ho : o = false → 0 < l.length) (a0 : 0 ≤ at_) (a1 : at_ ≤ 400000) : ∃ v p s : Int, (at_ ≤ p ∧ p ≤ at_ + 10) ∧ Ev (fun k => spec_l1Cur_weaverId.j0 k l o code at_ seed) (v, p, s) := by
  cases o with
  | true =>
    obtain ⟨v, p, s, e, _, u, w⟩ := among_ok code hc at_ seed [0, 1, 50] (by decide) a0 (by omega)
    refine ⟨v, p, s, ⟨by omega, by omega⟩, Ev.step (f := fun _ => some (v, p, s)) (fun k => ?_) (Ev.now _)⟩
    rw [spec_l1Cur_weaverId.j0, if_pos rfl, e]
    rfl
  | false =>
    have h0 := ho rfl
    obtain ⟨x, p, s, e, x0, x1, u, w⟩ := pick_ok code hc at_ seed (l.length : Int) a0 (by omega) (by omega)
    have hx : x < (l.length : Int) := by omega
    refine ⟨(rd_T26 l x).f0, p, s, ⟨by omega, by omega⟩, Ev.step (f := fun _ => some ((rd_T26 l x).f0, p, s)) (fun k => ?_) (Ev.now _)⟩
    rw [spec_l1Cur_weaverId.j0, if_neg (by decide), e, Option.bind_some]
    dsimp only
    rw [if_pos x0, if_pos hx]
theorem weaverId_ok (code : List Int) (hc : codeOk code) (l : List WV) (at_ seed : Int) (hl : l.length ≤ 20) (a0 : 0 ≤ at_) (a1 : at_ ≤ 300000) : ∃ v p s : Int, (at_ ≤ p ∧ p ≤ at_ + 20) ∧ Ev (fun k => spec_l1Cur_weaverId.f k code at_ seed l) (v, p, s) := by
  unfold spec_l1Cur_weaverId.f
  by_cases c : (l.length : Int) = 0
  · obtain ⟨v, p, s, g1, g2⟩ := weaverId_j0 code hc l true at_ seed hl (fun h => by cases h) a0 (by omega)
    simp only [if_pos c]
    exact ⟨v, p, s, ⟨by omega, by omega⟩, g2⟩
  · obtain ⟨o, p1, s1, e, u, w⟩ := one_ok code hc at_ seed 10 a0 (by omega) (by omega)
    obtain ⟨v, p, s, g1, g2⟩ := weaverId_j0 code hc l o p1 s1 hl (fun h => by omega) (by omega) (by omega)
    simp only [if_neg c, e, Option.bind_some]
    exact ⟨v, p, s, ⟨by omega, by omega⟩, g2⟩
theorem drawFew (code : List Int) (hc : codeOk code) : ∃ (l : List WV) (a : Int), (l.length ≤ 20 ∧ Sz l) ∧ Ev (fun k => spec_DrawFewestFor.f k code) (l, a) := by
  obtain ⟨l, p, s, h1, h2, h3⟩ := weavers_ok code hc
  obtain ⟨x, a, s3, w, c, t, e1, e2, c0, c1, a2, e3, _⟩ := cut_ok code hc p s [1, 2, 5, 11, 15, 0, 16] 5 (by decide) (by decide) (by omega) (by omega)
  have h : Ev (fun k => spec_DrawWithSkills.f k code) (l, w) := by
    unfold spec_DrawWithSkills.f
    refine Ev.bind h3 ?_
    simp only [Option.bind_some, e1, e2, if_pos c0, if_pos c1, e3]
    exact Ev.now _
  refine ⟨l, w, h1, ?_⟩
  unfold spec_DrawFewestFor.f
  exact Ev.bind h (Ev.now _)
theorem drawTeach (code : List Int) (hc : codeOk code) : ∃ (l : List WV) (a b c : Int), (l.length ≤ 20 ∧ Sz l) ∧ Ev (fun k => spec_DrawTeachSkill.f k code) (l, a, b, c) := by
  obtain ⟨l, p, s, h1, h2, h3⟩ := weavers_ok code hc
  obtain ⟨v, p1, s1, g1, g2⟩ := weaverId_ok code hc l p s h1.1 (by omega) (by omega)
  obtain ⟨v2, p2, s2, g3, g4⟩ := weaverId_ok code hc l p1 s1 h1.1 (by omega) (by omega)
  obtain ⟨x, a, s3, w, c, t, e1, e2, c0, c1, a2, e3, _⟩ := cut_ok code hc p2 s2 [1, 2, 4, 8, 3, 0] 4 (by decide) (by decide) (by omega) (by omega)
  refine ⟨l, v, v2, w, h1, ?_⟩
  unfold spec_DrawTeachSkill.f
  refine Ev.bind h3 (Ev.bind g2 (Ev.bind g4 ?_))
  simp only [Option.bind_some, e1, e2, if_pos c0, if_pos c1, e3]
  exact Ev.now _
theorem drawOne (code : List Int) (hc : codeOk code) : ∃ x : WV, x.f1.size ≤ 100 ∧ spec_DrawIsWeaver.f code = some (x.f0, x.f1, x.f2, x.f3, x.f4) := by
  obtain ⟨i, p, s, e, _, u, v⟩ := among_ok code hc 0 0 [1, 42, 99] (by decide) (by omega) (by omega)
  obtain ⟨a, b, c, d, f, p2, s2, e2, z, _, _⟩ := weaver_ok code hc p s i (by omega) (by omega)
  refine ⟨⟨a, b, c, d, f⟩, z, ?_⟩
  unfold spec_DrawIsWeaver.f
  rw [e, Option.bind_some]
  dsimp only
  rw [e2]
  rfl
theorem rInts_ev (l : List Int) (hl : l.length ≤ 1000) : Ev (fun k => laws_rInts.f k l l) true := by
  refine Ev.congr (f := fun k => laws_rInts.l0 k l l 0) (fun k => by unfold laws_rInts.f; rw [if_pos rfl]) ?_
  obtain ⟨r, hr, h⟩ := Ev.loopE (fun k i (_ : Unit) => laws_rInts.l0 k l l i) l.length (fun _ _ => True) (fun r => r = true)
    (fun s _ => ⟨true, rfl, Ev.step (f := fun _ => some true) (fun k => by rw [laws_rInts.l0, if_neg (by omega)]) (Ev.now true)⟩)
    (fun i s hi _ => ⟨(), trivial, fun r h => Ev.step (fun k => by rw [laws_rInts.l0, if_pos (by omega), if_pos (by omega), if_pos (by omega), if_pos rfl, wrap_id _ (by omega) (by omega)]) h⟩) () trivial
  subst hr
  exact h
theorem rWvs_ev (l : List WV) (hl : l.length ≤ 1000) : Ev (fun k => laws_rWeavers.f k l l) true := by
  refine Ev.congr (f := fun k => laws_rWeavers.l0 k l l 0) (fun k => by unfold laws_rWeavers.f; rw [if_pos rfl]) ?_
  obtain ⟨r, hr, h⟩ := Ev.loopE (fun k i (_ : Unit) => laws_rWeavers.l0 k l l i) l.length (fun _ _ => True) (fun r => r = true)
    (fun s _ => ⟨true, rfl, Ev.step (f := fun _ => some true) (fun k => by rw [laws_rWeavers.l0, if_neg (by omega)]) (Ev.now true)⟩)
    (fun i s hi _ => ⟨(), trivial, fun r h => Ev.step (fun k => by
      rw [laws_rWeavers.l0, if_pos (by omega), if_pos (by omega), if_pos (by omega)]
      simp only [beq_self_eq_true, Bool.not_true, Bool.or_self, Bool.false_eq_true, if_false]
      rw [wrap_id _ (by omega) (by omega)]) h⟩) () trivial
  subst hr
  exact h
theorem rHas_l0 (l : List Int) (a : Int) (hl : l.length ≤ 1000) (d : Nat) : ∀ i : Nat, i + d = l.length → Ev (fun k => laws_rHas.l0 k l a (i : Int)) (decide (a ∈ l.drop i)) := by
  induction d with
  | zero =>
    intro i hi
    rw [List.drop_eq_nil_of_le (by omega), decide_eq_false (by simp)]
    exact Ev.step (f := fun _ => some false) (fun k => by rw [laws_rHas.l0, if_neg (by omega)]) (Ev.now _)
  | succ d ih =>
    intro i hi
    have e : l.drop i = rd l (i : Int) :: l.drop (i + 1) := by
      rw [List.drop_eq_getElem_cons (show i < l.length by omega)]
      show _ = l.getD i 0 :: _
      rw [List.getD_eq_getElem?_getD, List.getElem?_eq_getElem (by omega)]
      rfl
    rw [e]
    by_cases c : rd l (i : Int) = a
    · rw [decide_eq_true (by rw [c]; exact List.mem_cons_self ..)]
      exact Ev.step (f := fun _ => some true) (fun k => by rw [laws_rHas.l0, if_pos (by omega), if_pos (by omega), if_pos c]) (Ev.now _)
    · have G := ih (i + 1) (by omega)
      rw [show ((i + 1 : Nat) : Int) = (i : Int) + 1 by omega] at G
      rw [show decide (a ∈ rd l (i : Int) :: l.drop (i + 1)) = decide (a ∈ l.drop (i + 1)) from decide_eq_decide.2 ⟨fun h => (List.mem_cons.1 h).resolve_left (fun h => c h.symm), fun h => List.mem_cons_of_mem _ h⟩]
      exact Ev.step (fun k => by rw [laws_rHas.l0, if_pos (by omega), if_pos (by omega), if_neg c, wrap_id _ (by omega) (by omega)]) G
theorem rHas_ev (l : List Int) (a : Int) (hl : l.length ≤ 1000) : Ev (fun k => laws_rHas.f k l a) (decide (a ∈ l)) := rHas_l0 l a hl l.length 0 (by omega)
theorem FnSkills (l0 : List (Int)) (q_l0 : (l0.length ≤ maxLen ∧ ∀ q ∈ l0, (Lit.int .u8 q).wf = true)) : ∃ k, laws_FnSkills.f k l0 = some true := by
  by_cases hb : (l0.length : Int) > 65536
  · refine ⟨0, ?_⟩
    unfold laws_FnSkills.f laws_rBig.f
    rw [Option.bind_some, decide_eq_true hb, if_pos rfl]
  · have hc : codeOk l0 := codeOk_of l0 (by omega) q_l0.2
    have big : ∀ {l : List WV}, Sz l → ∀ x ∈ l, x.f1.size ≤ 1048576 := fun h x hx => Nat.le_trans (h x hx) (by decide)
    have fin : Ev (fun k => laws_FnSkills.f k l0) true := by
      have j7 : Ev (fun k => laws_FnSkills.j7 k l0 false) true := by
        obtain ⟨x, hx, e⟩ := drawOne l0 hc
        obtain ⟨b, e2, e3⟩ := IsWeaver_same x (by omega)
        refine Ev.step (fun k => by rw [laws_FnSkills.j7, if_neg (by decide), e, Option.bind_some]) ?_
        simp only [e2, Option.bind_some]
        refine Ev.bind e3 ?_
        rw [beq_self_eq_true]
        exact Ev.now _
      have j5 : Ev (fun k => laws_FnSkills.j5 k l0 false) true := by
        obtain ⟨t, a, b, s, ⟨h1, h2⟩, d1⟩ := drawTeach l0 hc
        obtain ⟨v, hv, s1, s2⟩ := TeachSkill_same t (by omega) (big h2) a b s
        refine Ev.step (fun k => by rw [laws_FnSkills.j5, if_neg (by decide)]) (Ev.bind d1 ?_)
        simp only [s2, Option.bind_some]
        refine Ev.bind s1 ?_
        simp only [bne_self_eq_false, Bool.false_eq_true, if_false]
        cases ho : v.2 with
        | false =>
          refine Ev.bind (rWvs_ev v.1 (by omega)) (Ev.step (fun k => by rw [laws_FnSkills.j6, Bool.not_true, if_neg (by decide), if_neg (by decide)]) ?_)
          obtain ⟨x, hx, e⟩ := drawOne l0 hc
          obtain ⟨b, e2, e3⟩ := IsWeaver_same x (by omega)
          simp only [e, e2, Option.bind_some]
          refine Ev.bind e3 ?_
          rw [beq_self_eq_true]
          exact Ev.now _
        | true =>
          obtain ⟨f1, f2, f3, f4, f5, f6⟩ := Teach_facts t a b s v s2 ho
          have z2 : ∀ x ∈ v.1, x.f1.size ≤ 1048576 := fun x hx => by
            obtain ⟨y, hy, e⟩ := f3 x hx
            rw [e]
            exact big h2 y hy
          obtain ⟨w, hw, w1, w2⟩ := WithSkills_same v.1 (by omega) z2 s
          have e := Ev.uniq w1 (WithSkills_val v.1 (by omega) z2 s f1 f4)
          subst e
          refine Ev.bind (rWvs_ev v.1 (by omega)) (Ev.step (fun k => by rw [laws_FnSkills.j6, Bool.not_true, if_neg (by decide), if_pos rfl]) (Ev.bind w2 ?_))
          simp only [if_true]
          dsimp only at hw
          refine Ev.bind (rHas_ev _ b (by omega)) ?_
          rw [decide_eq_true f6]
          simp only [if_true]
          refine Ev.bind (rHas_ev _ a (by omega)) ?_
          rw [decide_eq_true f5]
          exact j7
      obtain ⟨t, a, ⟨h1, h2⟩, d1⟩ := drawFew l0 hc
      obtain ⟨v, hv, s1, s2, hval⟩ := FewestFor_same t (by omega) (big h2) a
      obtain ⟨w, hw, w1, w2⟩ := WithSkills_same t (by omega) (big h2) a
      have j4 : ∀ ok : Bool, ok = v.2 → Ev (fun k => laws_FnSkills.j4 k l0 t a v.1 ok) true := by
        intro ok hok
        refine Ev.step (fun k => by rw [laws_FnSkills.j4]) (Ev.bind w2 (Ev.bind w1 ?_))
        simp only [bne_self_eq_false, Bool.false_eq_true, if_false]
        refine Ev.bind (rInts_ev w.1 (by omega)) ?_
        simp only [if_true]
        cases ok with
        | false => simp only [Bool.false_eq_true, if_false]; exact j5
        | true =>
          simp only [if_true]
          by_cases c : (w.1.length : Int) > 0
          · obtain ⟨hk, ha, s, g1, g2, g3, g4⟩ := hval hok.symm
            have e := Ev.uniq w1 (WithSkills_val t (by omega) (big h2) a hk ((rng_iff _ _ _).2 ha))
            have hex : ∃ x ∈ t, pSk a x = true := by
              rw [e] at c
              dsimp only at c
              rw [List.length_map] at c
              cases hf : t.filter (pSk a) with
              | nil => rw [hf] at c; exact absurd c (by decide)
              | cons x r => exact ⟨x, List.mem_filter.1 (by rw [hf]; exact List.mem_cons_self ..)⟩
            obtain ⟨x, hx1, hx2⟩ := hex
            have hx3 := ((okWvs_iff t hk).2 x hx1).2.1
            have hone : restOf [x] a = 0 := (few_B x.f2 a (by omega) (by omega)).2.2.2.1.1 (of_decide_eq_true hx2)
            have l1 := g4 [x] (List.singleton_sublist.2 hx1) hone
            have l2 : v.1.length ≠ 0 := fun h0 => by
              rw [g2, List.length_map] at h0
              rw [List.length_eq_zero_iff.1 h0, restOf_nil] at g3
              omega
            rw [List.length_singleton] at l1
            have l3 : ((v.1.length : Int) != 1) = false := by
              rw [show (v.1.length : Int) = 1 by omega]; rfl
            simp only [if_pos c, l3]
            exact j5
          · simp only [if_neg c]
            exact j5
      have j0 : Ev (fun k => laws_FnSkills.j0 k l0 t a v.1 v.2 false) true := by
        cases ho : v.2 with
        | false => exact Ev.step (fun k => by rw [laws_FnSkills.j0, if_neg (by decide), if_neg (by decide)]) (j4 false ho.symm)
        | true =>
          obtain ⟨hk, ha, s, g1, g2, g3, g4⟩ := hval ho
          have h8 := (okWvs_iff t hk).1
          have hx := (okWvs_iff t hk).2
          have hsl : v.1.length = s.length := by rw [g2, List.length_map]
          have hfs : t.filter (fun x => decide (x.f0 ∈ v.1)) = s := by rw [g2]; exact filt_map g1 (okWvs_pair t hk)
          have hbs : ∀ u : List WV, u.Sublist t → ∀ x ∈ u, 0 ≤ x.f2 ∧ x.f2 ≤ 15 := fun u hu x hx' => by
            have := (hx x (hu.subset hx')).2.1
            omega
          have e0 : ∀ i : Nat, rd_T26 t (i : Int) = t.getD i z26 := fun _ => rfl
          have l1 : ∀ (x9 : Int), Go.bits .and .i64 x9 a = a → ∀ d j : Nat, j + d = v.1.length → Ev (fun k => laws_FnSkills.l1 k l0 t a v.1 true x9 (j : Int)) true := by
            intro x9 h9 d
            induction d with
            | zero => intro j hj; exact Ev.step (fun k => by rw [laws_FnSkills.l1, if_neg (by omega), if_pos h9]) (j4 true ho.symm)
            | succ d ih =>
              intro j hj
              have G := ih (j + 1) (by omega)
              rw [show ((j + 1 : Nat) : Int) = (j : Int) + 1 by omega] at G
              obtain ⟨f, hf⟩ : ∃ f : WV → Bool, f = (fun x => decide (x.f0 ∈ v.1) && !decide (x.f0 = rd v.1 (j : Int))) := ⟨_, rfl⟩
              have hne : Go.bits .and .i64 (allOf (t.filter f) 0) a ≠ a := by
                intro hcov
                have hsub : (t.filter f).Sublist t := List.filter_sublist
                have hr := (cover_iff (t.filter f) a (by omega) (hbs _ hsub)).1 hcov
                have hle := g4 _ hsub hr
                have hff : t.filter f = s.filter (fun x => !decide (x.f0 = rd v.1 (j : Int))) := by
                  rw [← hfs, List.filter_filter, hf]
                  exact List.filter_congr (fun x _ => Bool.and_comm ..)
                have hlt : (s.filter (fun x => !decide (x.f0 = rd v.1 (j : Int)))).length < s.length := by
                  refine List.length_filter_lt_length_iff_exists.2 ?_
                  have hjs : j < s.length := by omega
                  refine ⟨s[j], List.getElem_mem hjs, ?_⟩
                  have : rd v.1 (j : Int) = s[j].f0 := by
                    show v.1.getD j 0 = _
                    rw [g2, List.getD_eq_getElem?_getD, List.getElem?_map, List.getElem?_eq_getElem hjs]
                    rfl
                  rw [this, decide_eq_true rfl]
                  decide
                rw [hff] at hle
                omega
              have l2 : ∀ d i : Nat, i + d = t.length → Ev (fun k => laws_FnSkills.l2 k l0 t a v.1 true x9 (j : Int) (allOf ((t.take i).filter f) 0) (i : Int)) true := by
                intro d
                induction d with
                | zero =>
                  intro i hi
                  have hi : i = t.length := hi
                  subst hi
                  rw [List.take_length]
                  exact Ev.step (fun k => by rw [laws_FnSkills.l2, if_neg (by omega), if_neg hne, wrap_id ((j : Int) + 1) (by omega) (by omega)]) G
                | succ d ih2 =>
                  intro i hi
                  have G2 := ih2 (i + 1) (by omega)
                  rw [show ((i + 1 : Nat) : Int) = (i : Int) + 1 by omega, allOf_take f t i (by omega)] at G2
                  refine Ev.step (fun k => by rw [laws_FnSkills.l2, if_pos (by omega), if_pos (by omega), e0]) (Ev.bind (rHas_ev v.1 _ (by omega)) ?_)
                  by_cases c1 : (t.getD i z26).f0 ∈ v.1
                  · simp only [decide_eq_true c1, if_true]
                    by_cases c2 : (t.getD i z26).f0 = rd v.1 (j : Int)
                    · have hff : f (t.getD i z26) = false := by rw [hf]; simp only [decide_eq_true c2, Bool.not_true, Bool.and_false]
                      rw [hff, if_neg (by decide)] at G2
                      simp only [if_pos (show (0 : Int) ≤ (j : Int) by omega), if_pos (show (j : Int) < (v.1.length : Int) by omega), if_pos c2, wrap_id ((i : Int) + 1) (by omega) (by omega)]
                      exact G2
                    · have hff : f (t.getD i z26) = true := by rw [hf]; simp only [decide_eq_true c1, decide_eq_false c2, Bool.not_false, Bool.and_true]
                      rw [hff, if_pos rfl] at G2
                      simp only [if_pos (show (0 : Int) ≤ (j : Int) by omega), if_pos (show (j : Int) < (v.1.length : Int) by omega), if_neg c2, wrap_id ((i : Int) + 1) (by omega) (by omega)]
                      exact G2
                  · have hff : f (t.getD i z26) = false := by rw [hf]; simp only [decide_eq_false c1, Bool.false_and]
                    rw [hff, if_neg (by decide)] at G2
                    simp only [decide_eq_false c1, Bool.false_eq_true, if_false, wrap_id ((i : Int) + 1) (by omega) (by omega)]
                    exact G2
              have G0 : Ev (fun k => laws_FnSkills.l2 k l0 t a v.1 true x9 (j : Int) 0 0) true := l2 t.length 0 (by omega)
              exact Ev.step (fun k => by rw [laws_FnSkills.l1, if_pos (by omega)]) G0
          have hall : Go.bits .and .i64 (allOf (t.filter (fun x => decide (x.f0 ∈ v.1))) 0) a = a := by
            rw [hfs]
            exact (cover_iff s a (by omega) (hbs s g1)).2 g3
          have lp : ∀ d i : Nat, i + d = t.length → Ev (fun k => laws_FnSkills.l0 k l0 t a v.1 true (allOf ((t.take i).filter (fun x => decide (x.f0 ∈ v.1))) 0) (i : Int)) true := by
            intro d
            induction d with
            | zero =>
              intro i hi
              have hi : i = t.length := hi
              subst hi
              rw [List.take_length]
              have G1 : Ev (fun k => laws_FnSkills.l1 k l0 t a v.1 true (allOf (t.filter (fun x => decide (x.f0 ∈ v.1))) 0) 0) true := l1 _ hall v.1.length 0 (by omega)
              exact Ev.step (fun k => by rw [laws_FnSkills.l0, if_neg (by omega)]) G1
            | succ d ih =>
              intro i hi
              have G := ih (i + 1) (by omega)
              rw [show ((i + 1 : Nat) : Int) = (i : Int) + 1 by omega, allOf_take _ t i (by omega)] at G
              refine Ev.step (fun k => by rw [laws_FnSkills.l0, if_pos (by omega), if_pos (by omega), e0]) (Ev.bind (rHas_ev v.1 _ (by omega)) ?_)
              by_cases c1 : (t.getD i z26).f0 ∈ v.1
              · rw [if_pos (decide_eq_true c1)] at G
                simp only [decide_eq_true c1, if_true, wrap_id ((i : Int) + 1) (by omega) (by omega)]
                exact G
              · rw [if_neg (by rw [decide_eq_true_iff]; exact c1)] at G
                simp only [decide_eq_false c1, Bool.false_eq_true, if_false, wrap_id ((i : Int) + 1) (by omega) (by omega)]
                exact G
          have G0 : Ev (fun k => laws_FnSkills.l0 k l0 t a v.1 true 0 0) true := lp t.length 0 (by omega)
          exact Ev.step (fun k => by rw [laws_FnSkills.j0, if_neg (by decide), if_pos rfl]) G0
      unfold laws_FnSkills.f laws_rBig.f
      simp only [Option.bind_some, decide_eq_false hb, Bool.false_eq_true, if_false]
      refine Ev.bind d1 (Ev.bind s2 (Ev.bind s1 ?_))
      simp only [bne_self_eq_false, Bool.false_eq_true, if_false]
      exact Ev.bind (rInts_ev v.1 (by omega)) j0
    obtain ⟨K, hK⟩ := fin
    exact ⟨K, hK K (Nat.le_refl _)⟩
end Go.Proofs.YthalifhbjioaeaaDoor.Pure
