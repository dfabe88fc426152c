/- The plain law of FnExactFastestFree: what the program's functions compute is what the reference's compute. No program and no memory in it. -/
import Derived.Test.YthalifhbjioaeaaDoorHx4
import Derived.Test.YthalifhbjioaeaaDoorLps
namespace Go.Proofs.YthalifhbjioaeaaDoor.Pure
open Go.RowKit Go.Proofs.YthalifhbjioaeaaDoorW.PrintWords Go.Proofs.YthalifhbjioaeaaDoorW.PrintLast Go.Proofs.YthalifhbjioaeaaDoor.H
set_option linter.unusedVariables false
set_option linter.unusedSimpArgs false
theorem l1In_eq (a b c : Int) : spec_l1In.f a b c = some (rng a b c) := spec_l1In.eq a b c
theorem in_eq (a b c : Int) : impl_in.f a b c = some (rng a b c) := impl_in.eq a b c
theorem word_at (s : ByteArray) (i : Nat) (hi : i < s.size) : bt s (i : Int) = (((s.data.toList)[i]'(by simpa using hi)).toNat : Int) := by
  unfold bt
  rw [dif_pos (by simpa using hi)]
  rfl
theorem l2Word_ev (s : ByteArray) (hs : s.size ≤ 2000000) : Ev (fun k => spec_l2Word.f k s) (isWordB s) := by
  unfold spec_l2Word.f
  have e : isWordB s = ((List.range s.size).all (fun i => decide (97 ≤ bt s (i : Int)) && decide (bt s (i : Int) ≤ 122)) && rng (s.size : Int) 1 10) := by
    unfold isWordB
    rw [Bool.and_comm]
    congr 1
    rw [Bool.eq_iff_iff, all_range, List.all_eq_true]
    constructor
    · intro h i hi
      have := h _ (List.getElem_mem (by simpa using hi : i < s.data.toList.length))
      rw [word_at s i hi]
      rw [Bool.and_eq_true, decide_eq_true_iff, decide_eq_true_iff] at this ⊢
      omega
    · intro h b hb
      obtain ⟨i, hi, rfl⟩ := List.getElem_of_mem hb
      have hi' : i < s.size := by simpa using hi
      have := h i hi'
      rw [word_at s i hi'] at this
      rw [Bool.and_eq_true, decide_eq_true_iff, decide_eq_true_iff] at this ⊢
      omega
  rw [e]
  refine Ev.scan (fun k i => spec_l2Word.l0 k s i) s.size _ _ (Ev.step (f := fun _ => some _) (fun k => ?_) (Ev.now _)) ?_ ?_
  · rw [spec_l2Word.l0, if_neg (by omega), l1In_eq]
    rfl
  · intro i hi hg
    refine Ev.step (f := fun _ => some false) (fun k => ?_) (Ev.now _)
    rw [spec_l2Word.l0, if_pos (by omega), if_pos (by omega)]
    by_cases c : bt s (i : Int) < 97
    · rw [if_pos c]
    · rw [if_neg c, if_pos]
      rw [Bool.and_eq_false_iff, decide_eq_false_iff_not, decide_eq_false_iff_not] at hg
      omega
  · intro i r hi hg hr
    refine Ev.step (fun k => ?_) hr
    rw [Bool.and_eq_true, decide_eq_true_iff, decide_eq_true_iff] at hg
    rw [spec_l2Word.l0, if_pos (by omega), if_pos (by omega), if_neg (by omega), if_neg (by omega), wrap_id _ (by omega) (by omega)]
abbrev WV := S26
theorem l11One_ev (x : WV) (hs : x.f1.size ≤ 2000000) : Ev (fun k => spec_l11One.f k x.f0 x.f1 x.f2 x.f3 x.f4) (okWv x) := by
  unfold spec_l11One.f spec_l11Skills.f okWv
  simp only [l1In_eq, Option.bind_some]
  cases rng x.f0 1 99 with
  | false => exact Ev.now _
  | true =>
    simp only [if_true, Bool.true_and]
    refine Ev.bind (l2Word_ev x.f1 hs) ?_
    cases isWordB x.f1 with
    | false => exact Ev.now _
    | true =>
      simp only [if_true, Bool.true_and]
      cases rng x.f2 1 15 <;> cases rng x.f3 100 12000 <;> exact Ev.now _
theorem ext_getD {α : Type} (z : α) (a b : List α) (hl : a.length = b.length) (h : ∀ j, j < a.length → a.getD j z = b.getD j z) : a = b := by
  apply List.ext_getElem hl
  intro j h1 h2
  have := h j h1
  rwa [List.getD_eq_getElem?_getD, List.getD_eq_getElem?_getD, List.getElem?_eq_getElem h1, List.getElem?_eq_getElem h2] at this
theorem take_succ_getD {α : Type} (z : α) (a : List α) (i : Nat) (h : i < a.length) : a.take (i + 1) = a.take i ++ [a.getD i z] := by
  rw [List.take_succ_eq_append_getElem h, List.getD_eq_getElem?_getD, List.getElem?_eq_getElem h]
  rfl
theorem getD_map' {α β : Type} (f : α → β) (z : α) (y : β) (a : List α) (i : Nat) (h : i < a.length) : (a.map f).getD i y = f (a.getD i z) := by
  rw [List.getD_eq_getElem?_getD, List.getElem?_map, List.getD_eq_getElem?_getD, List.getElem?_eq_getElem h]
  rfl
theorem set_mid {α : Type} (f : α → α) (z : α) (a : List α) (i : Nat) (h : i < a.length) : ((a.take i).map f ++ a.drop i).set i (f (a.getD i z)) = (a.take (i + 1)).map f ++ a.drop (i + 1) := by
  have e : a.drop i = a.getD i z :: a.drop (i + 1) := by
    rw [List.drop_eq_getElem_cons h, List.getD_eq_getElem?_getD, List.getElem?_eq_getElem h]
    rfl
  rw [e, take_succ_getD z a i h, List.map_append, List.append_assoc]
  have hl : ((a.take i).map f).length = i := by rw [List.length_map, List.length_take]; omega
  rw [List.set_append_right _ _ (by omega), hl, Nat.sub_self]
  rfl
theorem mid_getD {α : Type} (f : α → α) (z : α) (a : List α) (i : Nat) (h : i < a.length) : ((a.take i).map f ++ a.drop i).getD i z = a.getD i z := by
  have hl : ((a.take i).map f).length = i := by rw [List.length_map, List.length_take]; omega
  rw [List.getD_eq_getElem?_getD, List.getElem?_append_right (by omega), hl, Nat.sub_self, List.getElem?_drop, Nat.add_zero, List.getD_eq_getElem?_getD]
theorem mid_length {α : Type} (f : α → α) (a : List α) (i : Nat) : ((a.take i).map f ++ a.drop i).length = a.length := by
  rw [List.length_append, List.length_map, List.length_take, List.length_drop]; omega
theorem seats_ev (l : List WV) (a : Int) (hl : l.length ≤ 2000000) : Ev (fun k => spec_l11Seats.f k l a) (sitN l a) := by
  unfold spec_l11Seats.f
  obtain ⟨r, hr, h⟩ := Ev.loopE (fun k i (s : Int) => spec_l11Seats.l0 k l a s i) l.length (fun i s => s = (((l.take i).filter fun x => decide (x.f4 = a)).length : Int)) (fun r => r = sitN l a)
    (fun s hs => ⟨s, by rw [hs, List.take_length]; rfl, Ev.step (f := fun _ => some s) (fun k => by rw [spec_l11Seats.l0, if_neg (by omega)]) (Ev.now _)⟩)
    (fun i s hi hs => by
      have hle : ((l.take i).filter fun x => decide (x.f4 = a)).length ≤ (l.take i).length := List.length_filter_le _ _
      have hle2 : (l.take i).length ≤ i := List.length_take_le _ _
      have et : l.take (i + 1) = l.take i ++ [l[i]] := List.take_succ_eq_append_getElem hi
      have e0 : rd_T26 l (i : Int) = l[i] := by
        show l.getD ((i : Int)).toNat z26 = l[i]
        rw [Int.toNat_natCast, List.getD_eq_getElem?_getD, List.getElem?_eq_getElem hi]
        rfl
      by_cases c : l[i].f4 = a
      · refine ⟨s + 1, by rw [et, List.filter_append, List.length_append, hs]; simp [c], fun r h => Ev.step (fun k => ?_) h⟩
        rw [spec_l11Seats.l0, if_pos (by omega), if_pos (by omega), e0, if_pos c, wrap_id (s + 1) (by omega) (by omega), wrap_id _ (by omega) (by omega)]
      · refine ⟨s, by rw [et, List.filter_append, List.length_append, hs]; simp [c], fun r h => Ev.step (fun k => ?_) h⟩
        rw [spec_l11Seats.l0, if_pos (by omega), if_pos (by omega), e0, if_neg c, wrap_id _ (by omega) (by omega)]) 0 (by simp)
  subst hr
  exact h
def okWvs (l : List WV) : Bool := decide ((l.length : Int) ≤ 8) && (l.all okWv && (asc idWv l && l.all (seatOk l)))
theorem AreWeavers_eq (l : List WV) : impl_AreWeavers.f l = some (okWvs l) := rfl
theorem l11Good_ev (l : List WV) (hl : l.length ≤ 2000000) (hz : ∀ x ∈ l, x.f1.size ≤ 1048576) : Ev (fun k => spec_l11Good.f k l) (okWvs l) := by
  unfold spec_l11Good.f
  have e : okWvs l = ((List.range l.length).all (fun i => okWv (l.getD i z26) && ((decide (i = 0) || decide ((l.getD (i - 1) z26).f0 < (l.getD i z26).f0)) && seatOk l (l.getD i z26))) && decide ((l.length : Int) ≤ 8)) := by
    unfold okWvs
    rw [Bool.and_comm]
    congr 1
    rw [Bool.eq_iff_iff, all_range, Bool.and_eq_true, Bool.and_eq_true, all_getD z26, all_getD z26, asc_iff idWv z26]
    constructor
    · rintro ⟨h1, h2, h3⟩ i hi
      rw [Bool.and_eq_true, Bool.and_eq_true, Bool.or_eq_true, decide_eq_true_iff, decide_eq_true_iff]
      refine ⟨h1 i hi, ?_, h3 i hi⟩
      by_cases e : i = 0
      · exact .inl e
      · have := h2 (i - 1) (by omega)
        rw [show i - 1 + 1 = i by omega] at this
        exact .inr this
    · intro h
      refine ⟨fun i hi => ?_, fun i hi => ?_, fun i hi => ?_⟩
      · have := h i hi
        rw [Bool.and_eq_true] at this
        exact this.1
      · have := h (i + 1) hi
        rw [Bool.and_eq_true, Bool.and_eq_true, Bool.or_eq_true, decide_eq_true_iff, decide_eq_true_iff] at this
        rcases this.2.1 with h | h
        · omega
        · exact h
      · have := h i hi
        rw [Bool.and_eq_true, Bool.and_eq_true] at this
        exact this.2.2
  rw [e]
  have hone : ∀ i : Nat, i < l.length → Ev (fun k => spec_l11One.f k (l.getD i z26).f0 (l.getD i z26).f1 (l.getD i z26).f2 (l.getD i z26).f3 (l.getD i z26).f4) (okWv (l.getD i z26)) := fun i hi => l11One_ev _ (by
    have : l.getD i z26 ∈ l := by
      rw [List.getD_eq_getElem?_getD, List.getElem?_eq_getElem hi]
      exact List.getElem_mem hi
    have := hz _ this
    omega)
  -- one round, told by what holds of the element
  have round : ∀ (i : Nat) (r : Bool), i < l.length → (∀ b, b = (okWv (l.getD i z26) && ((decide (i = 0) || decide ((l.getD (i - 1) z26).f0 < (l.getD i z26).f0)) && seatOk l (l.getD i z26))) → (b = true → Ev (fun k => spec_l11Good.l0 k l ((i : Int) + 1)) r) → (b = false → r = false) → Ev (fun k => spec_l11Good.l0 k l (i : Int)) r) := by
    intro i r hi b hb ht hf
    have h1 := hone i hi
    have e0 : rd_T26 l (i : Int) = l.getD i z26 := rfl
    have ep : 0 < i → rd_T26 l ((i : Int) - 1) = l.getD (i - 1) z26 := fun h => by
      show l.getD ((i : Int) - 1).toNat z26 = _
      rw [show ((i : Int) - 1).toNat = i - 1 by omega]
    obtain ⟨x, hx⟩ : ∃ x, x = l.getD i z26 := ⟨_, rfl⟩
    rw [← hx] at h1 e0 hb
    have w1 : wrap64 ((i : Int) - 1) = (i : Int) - 1 := wrap_id _ (by omega) (by omega)
    have w2 : wrap64 ((i : Int) + 1) = (i : Int) + 1 := wrap_id _ (by omega) (by omega)
    refine Ev.step (fun k => by rw [spec_l11Good.l0, if_pos (by omega), if_pos (by omega), e0, w1, w2]) (Ev.bind h1 ?_)
    cases ho : okWv x with
    | false =>
      rw [ho, Bool.false_and] at hb
      rw [hf hb]
      simp only [Bool.false_eq_true, if_false]
      exact Ev.now _
    | true =>
      rw [ho, Bool.true_and] at hb
      simp only [if_true]
      have hf4 : 0 ≤ x.f4 := by
        unfold okWv at ho
        simp only [Bool.and_eq_true, rng_iff] at ho
        omega
      have tail : (b = true → Ev (fun k => spec_l11Good.l0 k l ((i : Int) + 1)) r) → (seatOk l x = b) → Ev (fun k => if x.f4 > 0 then (spec_l11Seats.f k l x.f4).bind fun t => if t > 3 then some false else spec_l11Good.l0 k l ((i : Int) + 1) else spec_l11Good.l0 k l ((i : Int) + 1)) r := by
        intro ht hs
        by_cases c : x.f4 > 0
        · simp only [if_pos c]
          refine Ev.bind (seats_ev l x.f4 hl) ?_
          by_cases c3 : sitN l x.f4 > 3
          · simp only [if_pos c3]
            rw [hf (by rw [← hs]; unfold seatOk; rw [decide_eq_false (by omega), decide_eq_false (by omega)]; rfl)]
            exact Ev.now _
          · simp only [if_neg c3]
            exact ht (by rw [← hs]; unfold seatOk; rw [decide_eq_true (show sitN l x.f4 ≤ 3 by omega)]; simp)
        · simp only [if_neg c]
          exact ht (by rw [← hs]; unfold seatOk; rw [decide_eq_true (show x.f4 = 0 by omega)]; rfl)
      by_cases ci : i = 0
      · simp only [if_neg (show ¬ (i : Int) > 0 by omega)]
        exact tail ht (by rw [hb, decide_eq_true ci]; simp)
      · simp only [if_pos (show (i : Int) > 0 by omega), if_pos (show 0 ≤ (i : Int) - 1 by omega), if_pos (show (i : Int) - 1 < (l.length : Int) by omega), ep (by omega)]
        rw [decide_eq_false ci, Bool.false_or] at hb
        by_cases cc : (l.getD (i - 1) z26).f0 ≥ x.f0
        · simp only [if_pos cc]
          rw [hf (by rw [hb, decide_eq_false (by omega)]; rfl)]
          exact Ev.now _
        · simp only [if_neg cc]
          exact tail ht (by rw [hb, decide_eq_true (by omega)]; simp)
  refine Ev.scan (fun k i => spec_l11Good.l0 k l i) l.length _ _ (Ev.step (f := fun _ => some _) (fun k => by rw [spec_l11Good.l0, if_neg (by omega)]) (Ev.now _)) ?_ ?_
  · intro i hi hg
    exact round i false hi _ rfl (fun h => by rw [hg] at h; cases h) (fun _ => rfl)
  · intro i r hi hg hr
    exact round i r hi _ rfl (fun _ => hr) (fun h => by rw [hg] at h; cases h)
theorem bits_low : ∀ n : Fin 16, Go.bits .and .i64 (n.val : Int) 1 = 0 ∨ Go.bits .and .i64 (n.val : Int) 1 = 1 := by decide +kernel
theorem bits_low' (x : Int) (h : 1 ≤ x ∧ x ≤ 15) : Go.bits .and .i64 x 1 = 0 ∨ Go.bits .and .i64 x 1 = 1 := by
  have := bits_low ⟨x.toNat, by omega⟩
  rwa [show ((⟨x.toNat, by omega⟩ : Fin 16).val : Int) = x by show ((x.toNat : Nat) : Int) = x; omega] at this
theorem okWvs_iff (l : List WV) (h : okWvs l = true) : l.length ≤ 8 ∧ ∀ x ∈ l, (1 ≤ x.f0 ∧ x.f0 ≤ 99) ∧ (1 ≤ x.f2 ∧ x.f2 ≤ 15) ∧ (100 ≤ x.f3 ∧ x.f3 ≤ 12000) ∧ 0 ≤ x.f4 ∧ x.f4 ≤ 99 := by
  unfold okWvs at h
  rw [Bool.and_eq_true, Bool.and_eq_true, decide_eq_true_iff] at h
  refine ⟨by omega, fun x hx => ?_⟩
  have := List.all_eq_true.1 h.2.1 x hx
  unfold okWv at this
  simp only [Bool.and_eq_true, rng_iff] at this
  exact ⟨this.1, this.2.2.1, this.2.2.2.1, this.2.2.2.2⟩
theorem getD_mem {α : Type} (z : α) (l : List α) (i : Nat) (hi : i < l.length) : l.getD i z ∈ l := by
  rw [List.getD_eq_getElem?_getD, List.getElem?_eq_getElem hi]
  exact List.getElem_mem hi
theorem cmpW_neg (a b : Int) : cmpW a b < 0 ↔ a < b := by
  unfold cmpW
  split
  · constructor
    · intro _; assumption
    · intro _; decide
  · split
    · constructor
      · intro h; exact absurd h (by decide)
      · intro h; omega
    · constructor
      · intro h; exact absurd h (by decide)
      · intro h; omega
def stepW (acc : Option WV) (x : WV) : Option WV := match acc with | none => some x | some m => if impl_FastestFree_2.of x m < 0 then some x else some m
def pickW (t : List WV) : Option WV := (freeW t).foldl stepW none
def ansW : Option WV → Int × Bool | none => (0, false) | some m => (m.f0, true)
theorem getDW (t : List WV) (i : Nat) (hi : i < t.length) : t[i] = t.getD i z26 := by
  rw [List.getD_eq_getElem?_getD, List.getElem?_eq_getElem hi]
  rfl
theorem minToW_fold (xs : List WV) : ∀ i, i < xs.length → (xs.take (i + 1)).foldl stepW none = some (minTo_wv impl_FastestFree_2.of xs i) := by
  intro i
  induction i with
  | zero =>
    intro h
    rw [List.take_succ_eq_append_getElem h, getDW xs 0 h]
    rfl
  | succ i ih =>
    intro h
    rw [List.take_succ_eq_append_getElem h, List.foldl_append, ih (by omega), getDW xs (i + 1) h]
    have e : stepW (some (minTo_wv impl_FastestFree_2.of xs i)) (xs.getD (i + 1) z26) = if impl_FastestFree_2.of (xs.getD (i + 1) z26) (minTo_wv impl_FastestFree_2.of xs i) < 0 then some (xs.getD (i + 1) z26) else some (minTo_wv impl_FastestFree_2.of xs i) := rfl
    show stepW (some _) _ = _
    rw [e, minTo_wv]
    by_cases c : impl_FastestFree_2.of (xs.getD (i + 1) z26) (minTo_wv impl_FastestFree_2.of xs i) < 0
    · rw [if_pos c, if_pos c]
    · rw [if_neg c, if_neg c]
theorem pickW_min (t : List WV) (h : 0 < (freeW t).length) : pickW t = some (minTo_wv impl_FastestFree_2.of (freeW t) ((freeW t).length - 1)) := by
  have e := minToW_fold (freeW t) ((freeW t).length - 1) (by omega)
  rw [List.take_of_length_le (by omega)] at e
  exact e
theorem pickW_snoc (t : List WV) (i : Nat) (hi : i < t.length) : pickW (t.take (i + 1)) = if delF (t.getD i z26) = true then pickW (t.take i) else stepW (pickW (t.take i)) (t.getD i z26) := by
  unfold pickW freeW
  rw [List.take_succ_eq_append_getElem hi, List.filter_append, List.foldl_append, getDW t i hi]
  cases c : delF (t.getD i z26) with
  | true => rw [if_pos rfl, List.filter_cons_of_neg (by rw [c]; decide)]; rfl
  | false => rw [if_neg (by decide), List.filter_cons_of_pos (by rw [c]; rfl)]; rfl
theorem fastLoop (t : List WV) (hk : okWvs t = true) : Ev (fun k => spec_FastestFree.l0 k t (-1) 0) (ansW (pickW t)) := by
  obtain ⟨hl, hw⟩ := okWvs_iff t hk
  obtain ⟨r, hr, h⟩ := Ev.loopE (fun k i (b : Int) => spec_FastestFree.l0 k t b i) t.length (fun i b => (b = -1 ∧ pickW (t.take i) = none) ∨ ∃ j : Nat, b = (j : Int) ∧ j < t.length ∧ pickW (t.take i) = some (t.getD j z26)) (fun r => r = ansW (pickW t))
    (fun b hb => by
      rw [List.take_length] at hb
      rcases hb with ⟨rfl, hp⟩ | ⟨j, rfl, hj, hp⟩
      · exact ⟨(0, false), by rw [hp]; rfl, Ev.step (f := fun _ => some (0, false)) (fun k => by rw [spec_FastestFree.l0, if_neg (by omega), if_pos (by decide)]) (Ev.now _)⟩
      · exact ⟨((t.getD j z26).f0, true), by rw [hp]; rfl, Ev.step (f := fun _ => some ((t.getD j z26).f0, true)) (fun k => by rw [spec_FastestFree.l0, if_neg (by omega), if_neg (by omega), if_pos (by omega), if_pos (by omega)]; rfl) (Ev.now _)⟩)
    (fun i b hi hb => by
      have e1 := pickW_snoc t i hi
      have w1 : wrap64 ((i : Int) + 1) = (i : Int) + 1 := wrap_id _ (by omega) (by omega)
      have e0 : rd_T26 t (i : Int) = t.getD i z26 := rfl
      have hm := (hw _ (getD_mem z26 t i hi)).2.1
      have hbit := bits_low' _ hm
      by_cases c1 : (t.getD i z26).f4 = 0
      · rcases hbit with c2 | c2
        · have d : delF (t.getD i z26) = true := by unfold delF; rw [c2, c1]; decide
          rw [if_pos d] at e1
          exact ⟨b, by rw [e1]; exact hb, fun r h => Ev.step (fun k => by rw [spec_FastestFree.l0, if_pos (by omega), if_pos (by omega), e0, if_pos c1, if_pos c2, w1]) h⟩
        · have d : delF (t.getD i z26) = false := by unfold delF; rw [c2, c1]; decide
          have c3 : ¬ Go.bits .and .i64 (t.getD i z26).f2 1 = 0 := by rw [c2]; decide
          rw [d, if_neg (by decide)] at e1
          rcases hb with ⟨rfl, hp⟩ | ⟨j, rfl, hj, hp⟩
          · rw [hp] at e1
            exact ⟨(i : Int), .inr ⟨i, rfl, hi, e1⟩, fun r h => Ev.step (fun k => by
              rw [spec_FastestFree.l0, if_pos (by omega), if_pos (by omega), e0, if_pos c1, if_neg c3, if_pos (by decide), w1]) h⟩
          · rw [hp] at e1
            have e2 : stepW (some (t.getD j z26)) (t.getD i z26) = if impl_FastestFree_2.of (t.getD i z26) (t.getD j z26) < 0 then some (t.getD i z26) else some (t.getD j z26) := rfl
            have e3 : rd_T26 t (j : Int) = t.getD j z26 := rfl
            rw [e2] at e1
            have hof : impl_FastestFree_2.of (t.getD i z26) (t.getD j z26) < 0 ↔ (t.getD i z26).f3 > (t.getD j z26).f3 := cmpW_neg _ _
            by_cases d : (t.getD i z26).f3 > (t.getD j z26).f3
            · rw [if_pos (hof.2 d)] at e1
              exact ⟨(i : Int), .inr ⟨i, rfl, hi, e1⟩, fun r h => Ev.step (fun k => by
                rw [spec_FastestFree.l0, if_pos (by omega), if_pos (by omega), e0, if_pos c1, if_neg c3, if_neg (by omega), if_pos (by omega), if_pos (by omega), e3, if_pos d, w1]) h⟩
            · rw [if_neg (fun h => d (hof.1 h))] at e1
              exact ⟨(j : Int), .inr ⟨j, rfl, hj, e1⟩, fun r h => Ev.step (fun k => by
                rw [spec_FastestFree.l0, if_pos (by omega), if_pos (by omega), e0, if_pos c1, if_neg c3, if_neg (by omega), if_pos (by omega), if_pos (by omega), e3, if_neg d, w1]) h⟩
      · have d : delF (t.getD i z26) = true := by
          unfold delF
          rw [show ((t.getD i z26).f4 != 0) = true from bne_iff_ne.2 c1]
          rfl
        rw [if_pos d] at e1
        exact ⟨b, by rw [e1]; exact hb, fun r h => Ev.step (fun k => by rw [spec_FastestFree.l0, if_pos (by omega), if_pos (by omega), e0, if_neg c1, w1]) h⟩) (-1) (.inl ⟨rfl, rfl⟩)
  subst hr
  exact h
theorem Fastest_same (t : List WV) (ht : t.length ≤ 1000000) (t2 : ∀ x ∈ t, x.f1.size ≤ 1048576) : ∃ v : Int × Bool, Ev (fun k => spec_FastestFree.f k t) v ∧ impl_FastestFree.f t = some v := by
  have hg := l11Good_ev t (by omega) t2
  unfold spec_FastestFree.f impl_FastestFree.f
  simp only [AreWeavers_eq, Option.bind_some]
  cases hk : okWvs t with
  | false => exact ⟨(0, false), Ev.bind hg (by simp only [hk, Bool.false_eq_true, if_false]; exact Ev.now _), rfl⟩
  | true =>
    have hL := fastLoop t hk
    refine ⟨ansW (pickW t), Ev.bind hg (by simp only [hk, if_true]; exact hL), ?_⟩
    rw [if_pos rfl, if_pos ht]
    by_cases h0 : (freeW t).length = 0
    · rw [if_pos h0]
      have : pickW t = none := by unfold pickW; rw [List.eq_nil_of_length_eq_zero h0]; rfl
      rw [this]
      rfl
    · rw [if_neg h0, pickW_min t (by omega)]
      rfl
abbrev LV := S23
theorem szWv_ev (l : List LV) (hm : l.length ≤ maxLen) (hq : ∀ q ∈ l, q.f1.size ≤ maxLen) : ∃ r : Int, (0 ≤ r → l.length ≤ 1048576 ∧ ∀ j : Nat, j < l.length → (l.getD j z23).f1.size ≤ 1048576) ∧ Ev (fun k => laws_szWeaverS.f k l 1048576) r := by
  have hm' : l.length ≤ 9223372036854775807 := hm
  unfold laws_szWeaverS.f
  by_cases hl : (l.length : Int) ≤ 1048576
  · rw [wrap_id _ (by omega) (by omega)]
    simp only [if_neg (show ¬ (1048576 - (l.length : Int)) < 0 by omega)]
    have key : ∀ d i : Nat, ∀ q : Int, i + d = l.length → 0 ≤ q → q ≤ 1048576 → ∃ r : Int, (0 ≤ r → ∀ j : Nat, i ≤ j → j < l.length → (l.getD j z23).f1.size ≤ 1048576) ∧ Ev (fun k => laws_szWeaverS.l0 k l q (i : Int)) r := by
      intro d
      induction d with
      | zero =>
        intro i q hi h0 h1
        exact ⟨q, fun _ j h2 h3 => by omega, Ev.step (f := fun _ => some q) (fun k => by rw [laws_szWeaverS.l0, if_neg (by omega)]) (Ev.now _)⟩
      | succ d ih =>
        intro i q hi h0 h1
        have hmem : l.getD i z23 ∈ l := by
          rw [List.getD_eq_getElem?_getD, List.getElem?_eq_getElem (by omega)]
          exact List.getElem_mem (by omega)
        have hz : (l.getD i z23).f1.size ≤ 9223372036854775807 := hq _ hmem
        have e0 : rd_T23 l (i : Int) = l.getD i z23 := rfl
        obtain ⟨x, hx⟩ : ∃ x, x = l.getD i z23 := ⟨_, rfl⟩
        rw [← hx] at hz e0
        by_cases c : q - (x.f1.size : Int) < 0
        · refine ⟨-1, fun h => absurd h (by omega), Ev.step (f := fun _ => some (-1)) (fun k => ?_) (Ev.now _)⟩
          rw [laws_szWeaverS.l0, if_pos (by omega), if_pos (by omega), e0]
          unfold laws_szWeaver.f
          rw [wrap_id _ (by omega) (by omega), if_pos c, Option.bind_some, if_pos (by omega)]
        · obtain ⟨r, hr, h2⟩ := ih (i + 1) (q - (x.f1.size : Int)) (by omega) (by omega) (by omega)
          refine ⟨r, fun h j h3 h4 => ?_, Ev.step (fun k => ?_) h2⟩
          · by_cases e : j = i
            · rw [e, ← hx]; omega
            · exact hr h j (by omega) h4
          · rw [laws_szWeaverS.l0, if_pos (by omega), if_pos (by omega), e0]
            unfold laws_szWeaver.f
            rw [wrap_id (q - (x.f1.size : Int)) (by omega) (by omega), if_neg c, Option.bind_some, if_neg c, wrap_id _ (by omega) (by omega)]
            rw [show (i : Int) + 1 = ((i + 1 : Nat) : Int) by omega]
    obtain ⟨r, hr, h⟩ := key l.length 0 (1048576 - (l.length : Int)) (by omega) (by omega) (by omega)
    exact ⟨r, fun h0 => ⟨by omega, fun j hj => hr h0 j (Nat.zero_le _) hj⟩, h⟩
  · rw [wrap_id _ (by omega) (by omega)]
    simp only [if_pos (show (1048576 - (l.length : Int)) < 0 by omega)]
    exact ⟨-1, fun h => absurd h (by omega), Ev.now _⟩
theorem toWv_ev (l : List LV) (hl : l.length ≤ 1048576) (hz : ∀ j : Nat, j < l.length → (l.getD j z23).f1.size ≤ 1048576) : ∃ t : List WV, (t.length = l.length ∧ ∀ x ∈ t, x.f1.size ≤ 1048576) ∧ Ev (fun k => laws_toWeaverS.f k l) t := by
  obtain ⟨r, hr, h⟩ := Ev.loopE (fun k i (s : List WV) => laws_toWeaverS.l0 k l s i) l.length (fun _ s => s.length = l.length ∧ ∀ x ∈ s, x.f1.size ≤ 1048576) (fun r => r.length = l.length ∧ ∀ x ∈ r, x.f1.size ≤ 1048576)
    (fun s hs => ⟨s, hs, Ev.step (fun k => by rw [laws_toWeaverS.l0, if_neg (by omega)]) (Ev.now s)⟩)
    (fun i s hi hs => ⟨s.set i ⟨(rd_T23 l i).f0, (rd_T23 l i).f1, (rd_T23 l i).f2, (rd_T23 l i).f3, (rd_T23 l i).f4⟩, ⟨by simp [hs.1], fun x hx => by
        rcases List.mem_or_eq_of_mem_set hx with h | h
        · exact hs.2 x h
        · rw [h]; exact hz i hi⟩, fun r h => Ev.step (fun k => by
      have := hs.1
      rw [laws_toWeaverS.l0, if_pos (by omega), if_pos (by omega)]
      simp only [laws_toWeaver.f, Option.bind_some]
      rw [if_pos (by omega), wrap_id _ (by omega) (by omega), Int.toNat_natCast]) h⟩) (List.replicate l.length z26) ⟨by simp, fun x hx => by rw [(List.mem_replicate.1 hx).2]; decide⟩
  refine ⟨r, hr, Ev.congr (fun k => ?_) h⟩
  unfold laws_toWeaverS.f
  rw [if_pos (by omega), if_pos (by omega), Int.toNat_natCast]
theorem eqWv_ev (t : List WV) (ht : t.length ≤ 2000000) : Ev (fun k => laws_eqWeaverS.f k t t) true := by
  refine Ev.congr (f := fun k => laws_eqWeaverS.l0 k t t 0) (fun k => by unfold laws_eqWeaverS.f; rw [if_pos rfl]) ?_
  obtain ⟨r, hr, h⟩ := Ev.loopE (fun k i (_ : Unit) => laws_eqWeaverS.l0 k t t i) t.length (fun _ _ => True) (fun r => r = true)
    (fun s _ => ⟨true, rfl, Ev.step (fun k => by rw [laws_eqWeaverS.l0, if_neg (by omega)]) (Ev.now true)⟩)
    (fun i s hi _ => ⟨(), trivial, fun r h => Ev.step (fun k => by
      rw [laws_eqWeaverS.l0, if_pos (by omega), if_pos (by omega), if_pos (by omega)]
      simp only [laws_eqWeaver.f, if_true, Option.bind_some]
      rw [wrap_id _ (by omega) (by omega)]) h⟩) () trivial
  subst hr
  exact h
theorem FnExactFastestFree (l0 : List (S23)) (q_l0 : (l0.length ≤ maxLen ∧ ∀ q ∈ l0, ((Lit.int .i64 q.f0).wf = true ∧ q.f1.size ≤ maxLen ∧ (Lit.int .i64 q.f2).wf = true ∧ (Lit.int .i64 q.f3).wf = true ∧ (Lit.int .i64 q.f4).wf = true))) : ∃ k, laws_FnExactFastestFree.f k l0 = some true := by
  obtain ⟨r, hr, K1, h1⟩ := szWv_ev l0 q_l0.1 (fun q hq => (q_l0.2 q hq).2.1)
  by_cases h0 : r < 0
  · refine ⟨K1, ?_⟩
    have h1 := h1 K1 (Nat.le_refl _)
    dsimp only at h1
    unfold laws_FnExactFastestFree.f
    rw [h1, Option.bind_some, if_pos h0]
  · obtain ⟨z1, z2⟩ := hr (by omega)
    obtain ⟨t, ⟨t1, t2⟩, K2, h2⟩ := toWv_ev l0 z1 z2
    by_cases hbig : t.length ≤ 1000000
    · obtain ⟨v, ⟨K3, h3⟩, h5⟩ := Fastest_same t hbig t2
      obtain ⟨K4, h4⟩ := eqWv_ev t (by omega)
      obtain ⟨N, hN⟩ : ∃ N, N = K1 + K2 + K3 + K4 := ⟨_, rfl⟩
      replace h1 := fun j => h1 (N + j) (by omega)
      replace h2 := fun j => h2 (N + j) (by omega)
      replace h3 := fun j => h3 (N + j) (by omega)
      replace h4 := fun j => h4 (N + j) (by omega)
      dsimp only at h1 h2 h3 h4
      refine ⟨N + 4, ?_⟩
      unfold laws_FnExactFastestFree.f
      simp only [h1, h2, h3, h4, h5, h0, laws_FnExactFastestFree.j0, Option.bind_some, if_false, if_true, bne_self_eq_false, Bool.false_eq_true]
    · have hk : okWvs t = false := by
        unfold okWvs
        rw [decide_eq_false (by omega), Bool.false_and]
      obtain ⟨K3, h3⟩ : Ev (fun k => spec_FastestFree.f k t) (0, false) := by
        unfold spec_FastestFree.f
        exact Ev.bind (l11Good_ev t (by omega) t2) (by simp only [hk, Bool.false_eq_true, if_false]; exact Ev.now _)
      have h5 : impl_FastestFree.f t = some (0, false) := by
        unfold impl_FastestFree.f
        rw [AreWeavers_eq, hk]
        rfl
      obtain ⟨K4, h4⟩ := eqWv_ev t (by omega)
      obtain ⟨N, hN⟩ : ∃ N, N = K1 + K2 + K3 + K4 := ⟨_, rfl⟩
      replace h1 := fun j => h1 (N + j) (by omega)
      replace h2 := fun j => h2 (N + j) (by omega)
      replace h3 := fun j => h3 (N + j) (by omega)
      replace h4 := fun j => h4 (N + j) (by omega)
      dsimp only at h1 h2 h3 h4
      refine ⟨N + 4, ?_⟩
      unfold laws_FnExactFastestFree.f
      simp only [h1, h2, h3, h4, h5, h0, laws_FnExactFastestFree.j0, Option.bind_some, if_false, if_true, bne_self_eq_false, Bool.false_eq_true]
end Go.Proofs.YthalifhbjioaeaaDoor.Pure
