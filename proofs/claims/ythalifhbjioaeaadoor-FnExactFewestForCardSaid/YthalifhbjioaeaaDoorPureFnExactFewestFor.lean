/- The plain law of FnExactFewestFor: what the program's functions compute is what the reference's compute. No program and no memory in it. -/
import Derived.Test.YthalifhbjioaeaaDoorHx33
import Derived.Test.YthalifhbjioaeaaDoorLps
namespace Go.Proofs.YthalifhbjioaeaaDoor.Pure
open Go.RowKit Go.Proofs.YthalifhbjioaeaaDoorW.PrintWords Go.Proofs.YthalifhbjioaeaaDoorW.PrintLast Go.Proofs.YthalifhbjioaeaaDoor.H
set_option linter.unusedVariables false
set_option linter.unusedSimpArgs false
theorem l1In_eq (a b c : Int) : spec_l1In.f a b c = some (rng a b c) := spec_l1In.eq a b c
theorem in_eq (a b c : Int) : impl_in.f a b c = some (rng a b c) := impl_in.eq a b c
theorem word_at (s : ByteArray) (i : Nat) (hi : i < s.size) : bt s (i : Int) = (((s.data.toList)[i]'(by simpa using hi)).toNat : Int) := by
  unfold bt
  rw [dif_pos (by simpa using hi)]
  rfl
theorem l2Word_ev (s : ByteArray) (hs : s.size ≤ 2000000) : Ev (fun k => spec_l2Word.f k s) (isWordB s) := by
  unfold spec_l2Word.f
  have e : isWordB s = ((List.range s.size).all (fun i => decide (97 ≤ bt s (i : Int)) && decide (bt s (i : Int) ≤ 122)) && rng (s.size : Int) 1 10) := by
    unfold isWordB
    rw [Bool.and_comm]
    congr 1
    rw [Bool.eq_iff_iff, all_range, List.all_eq_true]
    constructor
    · intro h i hi
      have := h _ (List.getElem_mem (by simpa using hi : i < s.data.toList.length))
      rw [word_at s i hi]
      rw [Bool.and_eq_true, decide_eq_true_iff, decide_eq_true_iff] at this ⊢
      omega
    · intro h b hb
      obtain ⟨i, hi, rfl⟩ := List.getElem_of_mem hb
      have hi' : i < s.size := by simpa using hi
      have := h i hi'
      rw [word_at s i hi'] at this
      rw [Bool.and_eq_true, decide_eq_true_iff, decide_eq_true_iff] at this ⊢
      omega
  rw [e]
  refine Ev.scan (fun k i => spec_l2Word.l0 k s i) s.size _ _ (Ev.step (f := fun _ => some _) (fun k => ?_) (Ev.now _)) ?_ ?_
  · rw [spec_l2Word.l0, if_neg (by omega), l1In_eq]
    rfl
  · intro i hi hg
    refine Ev.step (f := fun _ => some false) (fun k => ?_) (Ev.now _)
    rw [spec_l2Word.l0, if_pos (by omega), if_pos (by omega)]
    by_cases c : bt s (i : Int) < 97
    · rw [if_pos c]
    · rw [if_neg c, if_pos]
      rw [Bool.and_eq_false_iff, decide_eq_false_iff_not, decide_eq_false_iff_not] at hg
      omega
  · intro i r hi hg hr
    refine Ev.step (fun k => ?_) hr
    rw [Bool.and_eq_true, decide_eq_true_iff, decide_eq_true_iff] at hg
    rw [spec_l2Word.l0, if_pos (by omega), if_pos (by omega), if_neg (by omega), if_neg (by omega), wrap_id _ (by omega) (by omega)]
abbrev WV := S26
theorem l11One_ev (x : WV) (hs : x.f1.size ≤ 2000000) : Ev (fun k => spec_l11One.f k x.f0 x.f1 x.f2 x.f3 x.f4) (okWv x) := by
  unfold spec_l11One.f spec_l11Skills.f okWv
  simp only [l1In_eq, Option.bind_some]
  cases rng x.f0 1 99 with
  | false => exact Ev.now _
  | true =>
    simp only [if_true, Bool.true_and]
    refine Ev.bind (l2Word_ev x.f1 hs) ?_
    cases isWordB x.f1 with
    | false => exact Ev.now _
    | true =>
      simp only [if_true, Bool.true_and]
      cases rng x.f2 1 15 <;> cases rng x.f3 100 12000 <;> exact Ev.now _
theorem ext_getD {α : Type} (z : α) (a b : List α) (hl : a.length = b.length) (h : ∀ j, j < a.length → a.getD j z = b.getD j z) : a = b := by
  apply List.ext_getElem hl
  intro j h1 h2
  have := h j h1
  rwa [List.getD_eq_getElem?_getD, List.getD_eq_getElem?_getD, List.getElem?_eq_getElem h1, List.getElem?_eq_getElem h2] at this
theorem take_succ_getD {α : Type} (z : α) (a : List α) (i : Nat) (h : i < a.length) : a.take (i + 1) = a.take i ++ [a.getD i z] := by
  rw [List.take_succ_eq_append_getElem h, List.getD_eq_getElem?_getD, List.getElem?_eq_getElem h]
  rfl
theorem getD_map' {α β : Type} (f : α → β) (z : α) (y : β) (a : List α) (i : Nat) (h : i < a.length) : (a.map f).getD i y = f (a.getD i z) := by
  rw [List.getD_eq_getElem?_getD, List.getElem?_map, List.getD_eq_getElem?_getD, List.getElem?_eq_getElem h]
  rfl
theorem set_mid {α : Type} (f : α → α) (z : α) (a : List α) (i : Nat) (h : i < a.length) : ((a.take i).map f ++ a.drop i).set i (f (a.getD i z)) = (a.take (i + 1)).map f ++ a.drop (i + 1) := by
  have e : a.drop i = a.getD i z :: a.drop (i + 1) := by
    rw [List.drop_eq_getElem_cons h, List.getD_eq_getElem?_getD, List.getElem?_eq_getElem h]
    rfl
  rw [e, take_succ_getD z a i h, List.map_append, List.append_assoc]
  have hl : ((a.take i).map f).length = i := by rw [List.length_map, List.length_take]; omega
  rw [List.set_append_right _ _ (by omega), hl, Nat.sub_self]
  rfl
theorem mid_getD {α : Type} (f : α → α) (z : α) (a : List α) (i : Nat) (h : i < a.length) : ((a.take i).map f ++ a.drop i).getD i z = a.getD i z := by
  have hl : ((a.take i).map f).length = i := by rw [List.length_map, List.length_take]; omega
  rw [List.getD_eq_getElem?_getD, List.getElem?_append_right (by omega), hl, Nat.sub_self, List.getElem?_drop, Nat.add_zero, List.getD_eq_getElem?_getD]
theorem mid_length {α : Type} (f : α → α) (a : List α) (i : Nat) : ((a.take i).map f ++ a.drop i).length = a.length := by
  rw [List.length_append, List.length_map, List.length_take, List.length_drop]; omega
abbrev LV := S23
theorem szWv_ev (l : List LV) (hm : l.length ≤ maxLen) (hq : ∀ q ∈ l, q.f1.size ≤ maxLen) : ∃ r : Int, (0 ≤ r → l.length ≤ 1048576 ∧ ∀ j : Nat, j < l.length → (l.getD j z23).f1.size ≤ 1048576) ∧ Ev (fun k => laws_szWeaverS.f k l 1048576) r := by
  have hm' : l.length ≤ 9223372036854775807 := hm
  unfold laws_szWeaverS.f
  by_cases hl : (l.length : Int) ≤ 1048576
  · rw [wrap_id _ (by omega) (by omega)]
    simp only [if_neg (show ¬ (1048576 - (l.length : Int)) < 0 by omega)]
    have key : ∀ d i : Nat, ∀ q : Int, i + d = l.length → 0 ≤ q → q ≤ 1048576 → ∃ r : Int, (0 ≤ r → ∀ j : Nat, i ≤ j → j < l.length → (l.getD j z23).f1.size ≤ 1048576) ∧ Ev (fun k => laws_szWeaverS.l0 k l q (i : Int)) r := by
      intro d
      induction d with
      | zero =>
        intro i q hi h0 h1
        exact ⟨q, fun _ j h2 h3 => by omega, Ev.step (f := fun _ => some q) (fun k => by rw [laws_szWeaverS.l0, if_neg (by omega)]) (Ev.now _)⟩
      | succ d ih =>
        intro i q hi h0 h1
        have hmem : l.getD i z23 ∈ l := by
          rw [List.getD_eq_getElem?_getD, List.getElem?_eq_getElem (by omega)]
          exact List.getElem_mem (by omega)
        have hz : (l.getD i z23).f1.size ≤ 9223372036854775807 := hq _ hmem
        have e0 : rd_T23 l (i : Int) = l.getD i z23 := rfl
        obtain ⟨x, hx⟩ : ∃ x, x = l.getD i z23 := ⟨_, rfl⟩
        rw [← hx] at hz e0
        by_cases c : q - (x.f1.size : Int) < 0
        · refine ⟨-1, fun h => absurd h (by omega), Ev.step (f := fun _ => some (-1)) (fun k => ?_) (Ev.now _)⟩
          rw [laws_szWeaverS.l0, if_pos (by omega), if_pos (by omega), e0]
          unfold laws_szWeaver.f
          rw [wrap_id _ (by omega) (by omega), if_pos c, Option.bind_some, if_pos (by omega)]
        · obtain ⟨r, hr, h2⟩ := ih (i + 1) (q - (x.f1.size : Int)) (by omega) (by omega) (by omega)
          refine ⟨r, fun h j h3 h4 => ?_, Ev.step (fun k => ?_) h2⟩
          · by_cases e : j = i
            · rw [e, ← hx]; omega
            · exact hr h j (by omega) h4
          · rw [laws_szWeaverS.l0, if_pos (by omega), if_pos (by omega), e0]
            unfold laws_szWeaver.f
            rw [wrap_id (q - (x.f1.size : Int)) (by omega) (by omega), if_neg c, Option.bind_some, if_neg c, wrap_id _ (by omega) (by omega)]
            rw [show (i : Int) + 1 = ((i + 1 : Nat) : Int) by omega]
    obtain ⟨r, hr, h⟩ := key l.length 0 (1048576 - (l.length : Int)) (by omega) (by omega) (by omega)
    exact ⟨r, fun h0 => ⟨by omega, fun j hj => hr h0 j (Nat.zero_le _) hj⟩, h⟩
  · rw [wrap_id _ (by omega) (by omega)]
    simp only [if_pos (show (1048576 - (l.length : Int)) < 0 by omega)]
    exact ⟨-1, fun h => absurd h (by omega), Ev.now _⟩
theorem toWv_ev (l : List LV) (hl : l.length ≤ 1048576) (hz : ∀ j : Nat, j < l.length → (l.getD j z23).f1.size ≤ 1048576) : ∃ t : List WV, (t.length = l.length ∧ ∀ x ∈ t, x.f1.size ≤ 1048576) ∧ Ev (fun k => laws_toWeaverS.f k l) t := by
  obtain ⟨r, hr, h⟩ := Ev.loopE (fun k i (s : List WV) => laws_toWeaverS.l0 k l s i) l.length (fun _ s => s.length = l.length ∧ ∀ x ∈ s, x.f1.size ≤ 1048576) (fun r => r.length = l.length ∧ ∀ x ∈ r, x.f1.size ≤ 1048576)
    (fun s hs => ⟨s, hs, Ev.step (fun k => by rw [laws_toWeaverS.l0, if_neg (by omega)]) (Ev.now s)⟩)
    (fun i s hi hs => ⟨s.set i ⟨(rd_T23 l i).f0, (rd_T23 l i).f1, (rd_T23 l i).f2, (rd_T23 l i).f3, (rd_T23 l i).f4⟩, ⟨by simp [hs.1], fun x hx => by
        rcases List.mem_or_eq_of_mem_set hx with h | h
        · exact hs.2 x h
        · rw [h]; exact hz i hi⟩, fun r h => Ev.step (fun k => by
      have := hs.1
      rw [laws_toWeaverS.l0, if_pos (by omega), if_pos (by omega)]
      simp only [laws_toWeaver.f, Option.bind_some]
      rw [if_pos (by omega), wrap_id _ (by omega) (by omega), Int.toNat_natCast]) h⟩) (List.replicate l.length z26) ⟨by simp, fun x hx => by rw [(List.mem_replicate.1 hx).2]; decide⟩
  refine ⟨r, hr, Ev.congr (fun k => ?_) h⟩
  unfold laws_toWeaverS.f
  rw [if_pos (by omega), if_pos (by omega), Int.toNat_natCast]
theorem eqWv_ev (t : List WV) (ht : t.length ≤ 2000000) : Ev (fun k => laws_eqWeaverS.f k t t) true := by
  refine Ev.congr (f := fun k => laws_eqWeaverS.l0 k t t 0) (fun k => by unfold laws_eqWeaverS.f; rw [if_pos rfl]) ?_
  obtain ⟨r, hr, h⟩ := Ev.loopE (fun k i (_ : Unit) => laws_eqWeaverS.l0 k t t i) t.length (fun _ _ => True) (fun r => r = true)
    (fun s _ => ⟨true, rfl, Ev.step (fun k => by rw [laws_eqWeaverS.l0, if_neg (by omega)]) (Ev.now true)⟩)
    (fun i s hi _ => ⟨(), trivial, fun r h => Ev.step (fun k => by
      rw [laws_eqWeaverS.l0, if_pos (by omega), if_pos (by omega), if_pos (by omega)]
      simp only [laws_eqWeaver.f, if_true, Option.bind_some]
      rw [wrap_id _ (by omega) (by omega)]) h⟩) () trivial
  subst hr
  exact h
theorem seats_ev (l : List WV) (a : Int) (hl : l.length ≤ 2000000) : Ev (fun k => spec_l11Seats.f k l a) (sitN l a) := by
  unfold spec_l11Seats.f
  obtain ⟨r, hr, h⟩ := Ev.loopE (fun k i (s : Int) => spec_l11Seats.l0 k l a s i) l.length (fun i s => s = (((l.take i).filter fun x => decide (x.f4 = a)).length : Int)) (fun r => r = sitN l a)
    (fun s hs => ⟨s, by rw [hs, List.take_length]; rfl, Ev.step (f := fun _ => some s) (fun k => by rw [spec_l11Seats.l0, if_neg (by omega)]) (Ev.now _)⟩)
    (fun i s hi hs => by
      have hle : ((l.take i).filter fun x => decide (x.f4 = a)).length ≤ (l.take i).length := List.length_filter_le _ _
      have hle2 : (l.take i).length ≤ i := List.length_take_le _ _
      have et : l.take (i + 1) = l.take i ++ [l[i]] := List.take_succ_eq_append_getElem hi
      have e0 : rd_T26 l (i : Int) = l[i] := by
        show l.getD ((i : Int)).toNat z26 = l[i]
        rw [Int.toNat_natCast, List.getD_eq_getElem?_getD, List.getElem?_eq_getElem hi]
        rfl
      by_cases c : l[i].f4 = a
      · refine ⟨s + 1, by rw [et, List.filter_append, List.length_append, hs]; simp [c], fun r h => Ev.step (fun k => ?_) h⟩
        rw [spec_l11Seats.l0, if_pos (by omega), if_pos (by omega), e0, if_pos c, wrap_id (s + 1) (by omega) (by omega), wrap_id _ (by omega) (by omega)]
      · refine ⟨s, by rw [et, List.filter_append, List.length_append, hs]; simp [c], fun r h => Ev.step (fun k => ?_) h⟩
        rw [spec_l11Seats.l0, if_pos (by omega), if_pos (by omega), e0, if_neg c, wrap_id _ (by omega) (by omega)]) 0 (by simp)
  subst hr
  exact h
def okWvs (l : List WV) : Bool := decide ((l.length : Int) ≤ 8) && (l.all okWv && (asc idWv l && l.all (seatOk l)))
theorem AreWeavers_eq (l : List WV) : impl_AreWeavers.f l = some (okWvs l) := rfl
theorem l11Good_ev (l : List WV) (hl : l.length ≤ 2000000) (hz : ∀ x ∈ l, x.f1.size ≤ 1048576) : Ev (fun k => spec_l11Good.f k l) (okWvs l) := by
  unfold spec_l11Good.f
  have e : okWvs l = ((List.range l.length).all (fun i => okWv (l.getD i z26) && ((decide (i = 0) || decide ((l.getD (i - 1) z26).f0 < (l.getD i z26).f0)) && seatOk l (l.getD i z26))) && decide ((l.length : Int) ≤ 8)) := by
    unfold okWvs
    rw [Bool.and_comm]
    congr 1
    rw [Bool.eq_iff_iff, all_range, Bool.and_eq_true, Bool.and_eq_true, all_getD z26, all_getD z26, asc_iff idWv z26]
    constructor
    · rintro ⟨h1, h2, h3⟩ i hi
      rw [Bool.and_eq_true, Bool.and_eq_true, Bool.or_eq_true, decide_eq_true_iff, decide_eq_true_iff]
      refine ⟨h1 i hi, ?_, h3 i hi⟩
      by_cases e : i = 0
      · exact .inl e
      · have := h2 (i - 1) (by omega)
        rw [show i - 1 + 1 = i by omega] at this
        exact .inr this
    · intro h
      refine ⟨fun i hi => ?_, fun i hi => ?_, fun i hi => ?_⟩
      · have := h i hi
        rw [Bool.and_eq_true] at this
        exact this.1
      · have := h (i + 1) hi
        rw [Bool.and_eq_true, Bool.and_eq_true, Bool.or_eq_true, decide_eq_true_iff, decide_eq_true_iff] at this
        rcases this.2.1 with h | h
        · omega
        · exact h
      · have := h i hi
        rw [Bool.and_eq_true, Bool.and_eq_true] at this
        exact this.2.2
  rw [e]
  have hone : ∀ i : Nat, i < l.length → Ev (fun k => spec_l11One.f k (l.getD i z26).f0 (l.getD i z26).f1 (l.getD i z26).f2 (l.getD i z26).f3 (l.getD i z26).f4) (okWv (l.getD i z26)) := fun i hi => l11One_ev _ (by
    have : l.getD i z26 ∈ l := by
      rw [List.getD_eq_getElem?_getD, List.getElem?_eq_getElem hi]
      exact List.getElem_mem hi
    have := hz _ this
    omega)
  -- one round, told by what holds of the element
  have round : ∀ (i : Nat) (r : Bool), i < l.length → (∀ b, b = (okWv (l.getD i z26) && ((decide (i = 0) || decide ((l.getD (i - 1) z26).f0 < (l.getD i z26).f0)) && seatOk l (l.getD i z26))) → (b = true → Ev (fun k => spec_l11Good.l0 k l ((i : Int) + 1)) r) → (b = false → r = false) → Ev (fun k => spec_l11Good.l0 k l (i : Int)) r) := by
    intro i r hi b hb ht hf
    have h1 := hone i hi
    have e0 : rd_T26 l (i : Int) = l.getD i z26 := rfl
    have ep : 0 < i → rd_T26 l ((i : Int) - 1) = l.getD (i - 1) z26 := fun h => by
      show l.getD ((i : Int) - 1).toNat z26 = _
      rw [show ((i : Int) - 1).toNat = i - 1 by omega]
    obtain ⟨x, hx⟩ : ∃ x, x = l.getD i z26 := ⟨_, rfl⟩
    rw [← hx] at h1 e0 hb
    have w1 : wrap64 ((i : Int) - 1) = (i : Int) - 1 := wrap_id _ (by omega) (by omega)
    have w2 : wrap64 ((i : Int) + 1) = (i : Int) + 1 := wrap_id _ (by omega) (by omega)
    refine Ev.step (fun k => by rw [spec_l11Good.l0, if_pos (by omega), if_pos (by omega), e0, w1, w2]) (Ev.bind h1 ?_)
    cases ho : okWv x with
    | false =>
      rw [ho, Bool.false_and] at hb
      rw [hf hb]
      simp only [Bool.false_eq_true, if_false]
      exact Ev.now _
    | true =>
      rw [ho, Bool.true_and] at hb
      simp only [if_true]
      have hf4 : 0 ≤ x.f4 := by
        unfold okWv at ho
        simp only [Bool.and_eq_true, rng_iff] at ho
        omega
      have tail : (b = true → Ev (fun k => spec_l11Good.l0 k l ((i : Int) + 1)) r) → (seatOk l x = b) → Ev (fun k => if x.f4 > 0 then (spec_l11Seats.f k l x.f4).bind fun t => if t > 3 then some false else spec_l11Good.l0 k l ((i : Int) + 1) else spec_l11Good.l0 k l ((i : Int) + 1)) r := by
        intro ht hs
        by_cases c : x.f4 > 0
        · simp only [if_pos c]
          refine Ev.bind (seats_ev l x.f4 hl) ?_
          by_cases c3 : sitN l x.f4 > 3
          · simp only [if_pos c3]
            rw [hf (by rw [← hs]; unfold seatOk; rw [decide_eq_false (by omega), decide_eq_false (by omega)]; rfl)]
            exact Ev.now _
          · simp only [if_neg c3]
            exact ht (by rw [← hs]; unfold seatOk; rw [decide_eq_true (show sitN l x.f4 ≤ 3 by omega)]; simp)
        · simp only [if_neg c]
          exact ht (by rw [← hs]; unfold seatOk; rw [decide_eq_true (show x.f4 = 0 by omega)]; rfl)
      by_cases ci : i = 0
      · simp only [if_neg (show ¬ (i : Int) > 0 by omega)]
        exact tail ht (by rw [hb, decide_eq_true ci]; simp)
      · simp only [if_pos (show (i : Int) > 0 by omega), if_pos (show 0 ≤ (i : Int) - 1 by omega), if_pos (show (i : Int) - 1 < (l.length : Int) by omega), ep (by omega)]
        rw [decide_eq_false ci, Bool.false_or] at hb
        by_cases cc : (l.getD (i - 1) z26).f0 ≥ x.f0
        · simp only [if_pos cc]
          rw [hf (by rw [hb, decide_eq_false (by omega)]; rfl)]
          exact Ev.now _
        · simp only [if_neg cc]
          exact tail ht (by rw [hb, decide_eq_true (by omega)]; simp)
  refine Ev.scan (fun k i => spec_l11Good.l0 k l i) l.length _ _ (Ev.step (f := fun _ => some _) (fun k => by rw [spec_l11Good.l0, if_neg (by omega)]) (Ev.now _)) ?_ ?_
  · intro i hi hg
    exact round i false hi _ rfl (fun h => by rw [hg] at h; cases h) (fun _ => rfl)
  · intro i r hi hg hr
    exact round i r hi _ rfl (fun _ => hr) (fun h => by rw [hg] at h; cases h)
theorem bits_low : ∀ n : Fin 16, Go.bits .and .i64 (n.val : Int) 1 = 0 ∨ Go.bits .and .i64 (n.val : Int) 1 = 1 := by decide +kernel
theorem bits_low' (x : Int) (h : 1 ≤ x ∧ x ≤ 15) : Go.bits .and .i64 x 1 = 0 ∨ Go.bits .and .i64 x 1 = 1 := by
  have := bits_low ⟨x.toNat, by omega⟩
  rwa [show ((⟨x.toNat, by omega⟩ : Fin 16).val : Int) = x by show ((x.toNat : Nat) : Int) = x; omega] at this
theorem okWvs_iff (l : List WV) (h : okWvs l = true) : l.length ≤ 8 ∧ ∀ x ∈ l, (1 ≤ x.f0 ∧ x.f0 ≤ 99) ∧ (1 ≤ x.f2 ∧ x.f2 ≤ 15) ∧ (100 ≤ x.f3 ∧ x.f3 ≤ 12000) ∧ 0 ≤ x.f4 ∧ x.f4 ≤ 99 := by
  unfold okWvs at h
  rw [Bool.and_eq_true, Bool.and_eq_true, decide_eq_true_iff] at h
  refine ⟨by omega, fun x hx => ?_⟩
  have := List.all_eq_true.1 h.2.1 x hx
  unfold okWv at this
  simp only [Bool.and_eq_true, rng_iff] at this
  exact ⟨this.1, this.2.2.1, this.2.2.2.1, this.2.2.2.2⟩
theorem getD_mem {α : Type} (z : α) (l : List α) (i : Nat) (hi : i < l.length) : l.getD i z ∈ l := by
  rw [List.getD_eq_getElem?_getD, List.getElem?_eq_getElem hi]
  exact List.getElem_mem hi
def orI (a b : Int) : Int := Go.bits .or .i64 a b
def cutI (k b : Int) : Int := Go.bits .and .i64 k (15 - b)
def allOf (s : List WV) (a : Int) : Int := s.foldl (fun a x => orI a x.f2) a
def restOf (s : List WV) (k : Int) : Int := s.foldl (fun k x => cutI k x.f2) k
def pc (k : Int) : Nat := (k % 2 + k / 2 % 2 + k / 4 % 2 + k / 8 % 2).toNat
def fewP (a : Nat) : Prop := ∀ k x : Fin 16, cutI (k.val : Int) (orI (a : Int) (x.val : Int)) = cutI (cutI (k.val : Int) (a : Int)) (x.val : Int)
instance (a : Nat) : Decidable (fewP a) := by unfold fewP; infer_instance
theorem few_a0 : fewP 0 := by decide +kernel
theorem few_a1 : fewP 1 := by decide +kernel
theorem few_a2 : fewP 2 := by decide +kernel
theorem few_a3 : fewP 3 := by decide +kernel
theorem few_a4 : fewP 4 := by decide +kernel
theorem few_a5 : fewP 5 := by decide +kernel
theorem few_a6 : fewP 6 := by decide +kernel
theorem few_a7 : fewP 7 := by decide +kernel
theorem few_a8 : fewP 8 := by decide +kernel
theorem few_a9 : fewP 9 := by decide +kernel
theorem few_a10 : fewP 10 := by decide +kernel
theorem few_a11 : fewP 11 := by decide +kernel
theorem few_a12 : fewP 12 := by decide +kernel
theorem few_a13 : fewP 13 := by decide +kernel
theorem few_a14 : fewP 14 := by decide +kernel
theorem few_a15 : fewP 15 := by decide +kernel
theorem few_all (a : Nat) (h : a < 16) : fewP a := by
  match a, h with
  | 0, _ => exact few_a0
  | 1, _ => exact few_a1
  | 2, _ => exact few_a2
  | 3, _ => exact few_a3
  | 4, _ => exact few_a4
  | 5, _ => exact few_a5
  | 6, _ => exact few_a6
  | 7, _ => exact few_a7
  | 8, _ => exact few_a8
  | 9, _ => exact few_a9
  | 10, _ => exact few_a10
  | 11, _ => exact few_a11
  | 12, _ => exact few_a12
  | 13, _ => exact few_a13
  | 14, _ => exact few_a14
  | 15, _ => exact few_a15
  | n + 16, h => omega
theorem few_b : ∀ a x : Fin 16, (0 ≤ orI (a.val : Int) (x.val : Int) ∧ orI (a.val : Int) (x.val : Int) ≤ 15) ∧ (0 ≤ cutI (a.val : Int) (x.val : Int) ∧ cutI (a.val : Int) (x.val : Int) ≤ 15) ∧ (cutI (a.val : Int) (x.val : Int) = (a.val : Int) ∨ pc (cutI (a.val : Int) (x.val : Int)) + 1 ≤ pc (a.val : Int)) ∧ (Go.bits .and .i64 (a.val : Int) (x.val : Int) = (x.val : Int) ↔ cutI (x.val : Int) (a.val : Int) = 0) ∧ pc (a.val : Int) ≤ 4 ∧ cutI (a.val : Int) 0 = (a.val : Int) := by decide +kernel
def f16 (x : Int) (h : 0 ≤ x ∧ x ≤ 15) : Fin 16 := ⟨x.toNat, by omega⟩
theorem f16_val (x : Int) (h : 0 ≤ x ∧ x ≤ 15) : (((f16 x h).val : Nat) : Int) = x := by show ((x.toNat : Nat) : Int) = x; omega
theorem few_A (a k x : Int) (ha : 0 ≤ a ∧ a ≤ 15) (hk : 0 ≤ k ∧ k ≤ 15) (hx : 0 ≤ x ∧ x ≤ 15) : cutI k (orI a x) = cutI (cutI k a) x := by
  have := few_all (f16 a ha).val (f16 a ha).isLt (f16 k hk) (f16 x hx)
  rwa [f16_val, f16_val, f16_val] at this
theorem few_B (a x : Int) (ha : 0 ≤ a ∧ a ≤ 15) (hx : 0 ≤ x ∧ x ≤ 15) : (0 ≤ orI a x ∧ orI a x ≤ 15) ∧ (0 ≤ cutI a x ∧ cutI a x ≤ 15) ∧ (cutI a x = a ∨ pc (cutI a x) + 1 ≤ pc a) ∧ (Go.bits .and .i64 a x = x ↔ cutI x a = 0) ∧ pc a ≤ 4 ∧ cutI a 0 = a := by
  have := few_b (f16 a ha) (f16 x hx)
  rwa [f16_val, f16_val] at this
theorem restOf_cons (x : WV) (s : List WV) (k : Int) : restOf (x :: s) k = restOf s (cutI k x.f2) := by unfold restOf; rw [List.foldl_cons]
theorem allOf_cons (x : WV) (s : List WV) (k : Int) : allOf (x :: s) k = allOf s (orI k x.f2) := by unfold allOf; rw [List.foldl_cons]
theorem restOf_nil (k : Int) : restOf [] k = k := by unfold restOf; rw [List.foldl_nil]
theorem allOf_nil (k : Int) : allOf [] k = k := by unfold allOf; rw [List.foldl_nil]
theorem rest_all (s : List WV) : ∀ (k a : Int), (0 ≤ k ∧ k ≤ 15) → (0 ≤ a ∧ a ≤ 15) → (∀ x ∈ s, 0 ≤ x.f2 ∧ x.f2 ≤ 15) → restOf s (cutI k a) = cutI k (allOf s a) ∧ 0 ≤ allOf s a ∧ allOf s a ≤ 15 := by
  induction s with
  | nil => intro k a hk ha _; rw [restOf_nil, allOf_nil]; exact ⟨rfl, ha⟩
  | cons x s ih =>
    intro k a hk ha hs
    have hx := hs x (List.mem_cons_self ..)
    have := ih k (orI a x.f2) hk (few_B a x.f2 ha hx).1 (fun y hy => hs y (List.mem_cons_of_mem _ hy))
    rw [few_A a k x.f2 ha hk hx] at this
    rw [restOf_cons, allOf_cons]
    exact this
theorem cover_iff (s : List WV) (k : Int) (hk : 0 ≤ k ∧ k ≤ 15) (hs : ∀ x ∈ s, 0 ≤ x.f2 ∧ x.f2 ≤ 15) : Go.bits .and .i64 (allOf s 0) k = k ↔ restOf s k = 0 := by
  obtain ⟨h1, h2⟩ := rest_all s k 0 hk (by omega) hs
  rw [(few_B (allOf s 0) k h2 hk).2.2.2.1, ← h1, (few_B k 0 hk (by omega)).2.2.2.2.2]
theorem short (s : List WV) : ∀ k : Int, (0 ≤ k ∧ k ≤ 15) → (∀ x ∈ s, 0 ≤ x.f2 ∧ x.f2 ≤ 15) → restOf s k = 0 → ∃ t : List WV, t.Sublist s ∧ t.length ≤ pc k ∧ restOf t k = 0 := by
  induction s with
  | nil => intro k hk _ h; exact ⟨[], List.Sublist.slnil, Nat.zero_le _, h⟩
  | cons x s ih =>
    intro k hk hs h
    have hx := hs x (List.mem_cons_self ..)
    have hs' : ∀ y ∈ s, 0 ≤ y.f2 ∧ y.f2 ≤ 15 := fun y hy => hs y (List.mem_cons_of_mem _ hy)
    obtain ⟨_, hc, hd, _⟩ := few_B k x.f2 hk hx
    have h' : restOf s (cutI k x.f2) = 0 := h
    rcases hd with hd | hd
    · rw [hd] at h'
      obtain ⟨t, h1, h2, h3⟩ := ih k hk hs' h'
      exact ⟨t, h1.cons x, h2, h3⟩
    · obtain ⟨t, h1, h2, h3⟩ := ih (cutI k x.f2) hc hs' h'
      exact ⟨x :: t, h1.cons_cons x, by rw [List.length_cons]; omega, h3⟩
def cmpL : List Int → List Int → Int
  | [], [] => 0
  | [], _ :: _ => -1
  | _ :: _, [] => 1
  | a :: s, b :: t => if a < b then -1 else if a > b then 1 else cmpL s t
theorem cmpL_self (s : List Int) : cmpL s s = 0 := by
  induction s with
  | nil => rfl
  | cons a s ih => rw [cmpL, if_neg (by omega), if_neg (by omega), ih]
theorem cmpL_anti (s : List Int) : ∀ t : List Int, cmpL s t = - cmpL t s := by
  induction s with
  | nil => intro t; cases t <;> rfl
  | cons a s ih =>
    intro t
    cases t with
    | nil => rfl
    | cons b t =>
      rw [cmpL, cmpL]
      by_cases c : a < b
      · rw [if_pos c, if_neg (show ¬ b < a by omega), if_pos (show b > a by omega)]
      · by_cases d : a > b
        · rw [if_neg c, if_pos d, if_pos (show b < a by omega)]; rfl
        · rw [if_neg c, if_neg d, if_neg (show ¬ b < a by omega), if_neg (show ¬ b > a by omega), ih t]
theorem cmpL_eq (s : List Int) : ∀ t : List Int, cmpL s t = 0 → s = t := by
  induction s with
  | nil => intro t; cases t with
    | nil => intro _; rfl
    | cons b t => intro h; exact absurd h (by rw [cmpL]; decide)
  | cons a s ih =>
    intro t h
    cases t with
    | nil => exact absurd h (by rw [cmpL]; decide)
    | cons b t =>
      rw [cmpL] at h
      by_cases c : a < b
      · rw [if_pos c] at h; exact absurd h (by decide)
      · by_cases d : a > b
        · rw [if_neg c, if_pos d] at h; exact absurd h (by decide)
        · rw [if_neg c, if_neg d] at h
          rw [show a = b by omega, ih t h]
theorem cmpL_trans (s : List Int) : ∀ t u : List Int, cmpL s t ≤ 0 → cmpL t u ≤ 0 → cmpL s u ≤ 0 := by
  induction s with
  | nil => intro t u _ _; cases u <;> rw [cmpL] <;> decide
  | cons a s ih =>
    intro t u h1 h2
    cases t with
    | nil => rw [cmpL] at h1; exact absurd h1 (by decide)
    | cons b t =>
      cases u with
      | nil => rw [cmpL] at h2; exact absurd h2 (by decide)
      | cons d u =>
        rw [cmpL] at h1 h2 ⊢
        by_cases c1 : a < b
        · by_cases c2 : b < d
          · rw [if_pos (show a < d by omega)]; decide
          · by_cases c3 : b > d
            · rw [if_neg c2, if_pos c3] at h2; exact absurd h2 (by decide)
            · rw [if_pos (show a < d by omega)]; decide
        · by_cases c2 : a > b
          · rw [if_neg c1, if_pos c2] at h1; exact absurd h1 (by decide)
          · rw [if_neg c1, if_neg c2] at h1
            have e : a = b := by omega
            subst e
            by_cases c3 : a < d
            · rw [if_pos c3]; decide
            · by_cases c4 : a > d
              · rw [if_neg c3, if_pos c4] at h2; exact absurd h2 (by decide)
              · rw [if_neg c3, if_neg c4] at h2 ⊢
                exact ih t u h1 h2
def least : List WV → Nat → Int → Option (List Int)
  | [], 0, k => if k = 0 then some [] else none
  | [], _ + 1, _ => none
  | _ :: _, 0, k => if k = 0 then some [] else none
  | x :: t, n + 1, k => match least t n (cutI k x.f2) with
    | some r => some (x.f0 :: r)
    | none => least t (n + 1) k
theorem least_zero (t : List WV) (k : Int) : least t 0 k = if k = 0 then some [] else none := by cases t <;> rfl
theorem least_some (t : List WV) : ∀ (n : Nat) (k : Int) (r : List Int), least t n k = some r → ∃ s : List WV, s.Sublist t ∧ s.length = n ∧ restOf s k = 0 ∧ r = s.map (·.f0) := by
  induction t with
  | nil =>
    intro n k r h
    cases n with
    | zero =>
      rw [least] at h
      by_cases c : k = 0
      · rw [if_pos c] at h
        exact ⟨[], List.Sublist.slnil, rfl, c, (Option.some.inj h).symm⟩
      · rw [if_neg c] at h; cases h
    | succ n => rw [least] at h; cases h
  | cons x t ih =>
    intro n k r h
    cases n with
    | zero =>
      rw [least] at h
      by_cases c : k = 0
      · rw [if_pos c] at h
        exact ⟨[], List.nil_sublist _, rfl, c, (Option.some.inj h).symm⟩
      · rw [if_neg c] at h; cases h
    | succ n =>
      rw [least] at h
      cases h1 : least t n (cutI k x.f2) with
      | some q =>
        rw [h1] at h
        obtain ⟨s, a, b, c, d⟩ := ih n _ q h1
        exact ⟨x :: s, a.cons_cons x, by rw [List.length_cons, b], c, by rw [← Option.some.inj h, d]; rfl⟩
      | none =>
        rw [h1] at h
        obtain ⟨s, a, b, c, d⟩ := ih (n + 1) k r h
        exact ⟨s, a.cons x, b, c, d⟩
theorem least_min (t : List WV) : ∀ (n : Nat) (k : Int) (s : List WV), t.Pairwise (fun a b => a.f0 < b.f0) → s.Sublist t → s.length = n → restOf s k = 0 → ∃ r, least t n k = some r ∧ cmpL r (s.map (·.f0)) ≤ 0 := by
  induction t with
  | nil =>
    intro n k s _ hs hn hr
    have e : s = [] := List.sublist_nil.1 hs
    subst e
    have e2 : n = 0 := hn.symm
    subst e2
    have hk : k = 0 := hr
    exact ⟨[], by rw [least, if_pos hk], by decide⟩
  | cons x t ih =>
    intro n k s hp hs hn hr
    obtain ⟨hp1, hp2⟩ := List.pairwise_cons.1 hp
    cases n with
    | zero =>
      have e : s = [] := List.length_eq_zero_iff.1 hn
      subst e
      have hk : k = 0 := hr
      exact ⟨[], by rw [least, if_pos hk], by decide⟩
    | succ n =>
      rw [least]
      cases hs with
      | cons _ h =>
        cases s with
        | nil => cases hn
        | cons y s =>
          have hy : x.f0 < y.f0 := hp1 y (h.subset (List.mem_cons_self ..))
          cases h1 : least t n (cutI k x.f2) with
          | some q => exact ⟨_, rfl, by rw [List.map_cons, cmpL, if_pos hy]; decide⟩
          | none => exact ih (n + 1) k (y :: s) hp2 h hn hr
      | cons_cons _ h =>
        rename_i s
        obtain ⟨q, h1, h2⟩ := ih n (cutI k x.f2) s hp2 h (Nat.succ.inj hn) hr
        rw [h1]
        exact ⟨_, rfl, by rw [List.map_cons, cmpL, if_neg (by omega), if_neg (by omega)]; exact h2⟩
def pick : List WV → Nat → List WV
  | [], _ => []
  | x :: t, m => if m % 2 = 1 then x :: pick t (m / 2) else pick t (m / 2)
theorem pick_sub (t : List WV) : ∀ m, (pick t m).Sublist t := by
  induction t with
  | nil => intro m; exact List.Sublist.slnil
  | cons x t ih =>
    intro m
    rw [pick]
    split
    · exact (ih _).cons_cons x
    · exact (ih _).cons x
theorem sub_pick {s t : List WV} (h : s.Sublist t) : ∃ m, m < 2 ^ t.length ∧ pick t m = s := by
  induction h with
  | slnil => exact ⟨0, by decide, rfl⟩
  | cons x _ ih =>
    obtain ⟨m, h1, h2⟩ := ih
    exact ⟨2 * m, by rw [List.length_cons, Nat.pow_succ]; omega, by rw [pick, if_neg (by omega), show 2 * m / 2 = m by omega, h2]⟩
  | cons_cons x _ ih =>
    obtain ⟨m, h1, h2⟩ := ih
    exact ⟨2 * m + 1, by rw [List.length_cons, Nat.pow_succ]; omega, by rw [pick, if_pos (by omega), show (2 * m + 1) / 2 = m by omega, h2]⟩
def leL (a b : List Int) : Prop := a.length < b.length ∨ (a.length = b.length ∧ cmpL a b ≤ 0)
theorem leL_trans (a b c : List Int) (h1 : leL a b) (h2 : leL b c) : leL a c := by
  rcases h1 with h1 | ⟨h1, h3⟩ <;> rcases h2 with h2 | ⟨h2, h4⟩
  · exact .inl (by omega)
  · exact .inl (by omega)
  · exact .inl (by omega)
  · exact .inr ⟨by omega, cmpL_trans a b c h3 h4⟩
theorem leL_self (a : List Int) : leL a a := .inr ⟨rfl, by rw [cmpL_self]; decide⟩
/-- what the walk over all sets has found of the first m of them -/
def Found (l : List WV) (k : Int) (m : Nat) (q : List Int × Bool) : Prop :=
  (q = ([], false) ∧ ∀ j < m, restOf (pick l j) k ≠ 0) ∨
  (q.2 = true ∧ (∃ j, restOf (pick l j) k = 0 ∧ q.1 = (pick l j).map (·.f0)) ∧ ∀ j < m, restOf (pick l j) k = 0 → leL q.1 ((pick l j).map (·.f0)))
def firstOf (l : List WV) (k : Int) : Nat → Nat → List Int × Bool
  | 0, _ => ([], false)
  | d + 1, n => match least l n k with
    | some r => (r, true)
    | none => firstOf l k d (n + 1)
theorem firstOf_none (l : List WV) (k : Int) : ∀ d n, (∀ i, n ≤ i → i < n + d → least l i k = none) → firstOf l k d n = ([], false) := by
  intro d
  induction d with
  | zero => intro n _; rfl
  | succ d ih =>
    intro n h
    rw [firstOf, h n (by omega) (by omega)]
    exact ih (n + 1) (fun i h1 h2 => h i (by omega) (by omega))
theorem firstOf_some (l : List WV) (k : Int) (r : List Int) : ∀ d n i, n ≤ i → i < n + d → (∀ j, n ≤ j → j < i → least l j k = none) → least l i k = some r → firstOf l k d n = (r, true) := by
  intro d
  induction d with
  | zero => intro n i h1 h2; omega
  | succ d ih =>
    intro n i h1 h2 h3 h4
    rw [firstOf]
    by_cases e : n = i
    · rw [e, h4]
    · rw [h3 n (by omega) (by omega)]
      exact ih (n + 1) i (by omega) (by omega) (fun j h5 h6 => h3 j (by omega) h6) h4
theorem found_first (l : List WV) (k : Int) (hk : 1 ≤ k ∧ k ≤ 15) (hp : l.Pairwise (fun a b => a.f0 < b.f0)) (hx : ∀ x ∈ l, 0 ≤ x.f2 ∧ x.f2 ≤ 15) (q : List Int × Bool) (h : Found l k (2 ^ l.length) q) : q = firstOf l k 4 1 := by
  rcases h with ⟨rfl, h⟩ | ⟨h1, ⟨j0, h2, h3⟩, h4⟩
  · refine (firstOf_none l k 4 1 (fun i _ _ => ?_)).symm
    cases e : least l i k with
    | none => rfl
    | some r =>
      obtain ⟨s, a, b, c, d⟩ := least_some l i k r e
      obtain ⟨m, hm, hs⟩ := sub_pick a
      exact absurd (by rw [hs]; exact c) (h m hm)
  · obtain ⟨q1, q2⟩ := q
    dsimp only at h1 h3 h4
    subst h1
    have hmin : ∀ s : List WV, s.Sublist l → restOf s k = 0 → leL q1 (s.map (·.f0)) := fun s a c => by
      obtain ⟨m, hm, hs⟩ := sub_pick a
      have := h4 m hm (by rw [hs]; exact c)
      rwa [hs] at this
    obtain ⟨p, hpk⟩ : ∃ p, p = pick l j0 := ⟨_, rfl⟩
    have hsub : p.Sublist l := by rw [hpk]; exact pick_sub l j0
    rw [← hpk] at h2 h3
    have hlen : q1.length = p.length := by rw [h3, List.length_map]
    have h0 : 1 ≤ p.length := by
      cases p with
      | nil => exact absurd (show k = 0 from h2) (by omega)
      | cons _ _ => rw [List.length_cons]; omega
    have h5 : p.length ≤ 4 := by
      obtain ⟨s, a, b, c⟩ := short p k (by omega) (fun x hx' => hx x (hsub.subset hx')) h2
      have b2 := (few_B k 0 (by omega) (by omega)).2.2.2.2.1
      rcases hmin s (a.trans hsub) c with d | ⟨d, _⟩ <;> rw [List.length_map] at d <;> omega
    obtain ⟨r, r1, r2⟩ := least_min l p.length k p hp hsub rfl h2
    obtain ⟨s, a, b, c, d⟩ := least_some l p.length k r r1
    have e : q1 = r := by
      have h6 := hmin s a c
      rw [← d] at h6
      rw [← h3] at r2
      rcases h6 with h6 | ⟨h6, h7⟩
      · rw [d, List.length_map] at h6; omega
      · have := cmpL_anti r q1
        exact cmpL_eq q1 r (by omega)
    rw [e]
    refine (firstOf_some l k r 4 1 p.length h0 (by omega) (fun j h6 h7 => ?_) r1).symm
    cases e : least l j k with
    | none => rfl
    | some r' =>
      obtain ⟨s, a, b, c, d⟩ := least_some l j k r' e
      rcases hmin s a c with d | ⟨d, _⟩ <;> rw [List.length_map] at d <;> omega
theorem few_l11Skills (a : Int) : spec_l11Skills.f a = some (rng a 1 15) := by unfold spec_l11Skills.f; rw [l1In_eq]; rfl
theorem few_areSkills (a : Int) : impl_areSkills.f a = some (rng a 1 15) := by unfold impl_areSkills.f; rw [in_eq]; rfl
theorem few_rd (l : List WV) (i : Nat) (hi : i < l.length) : rd_T26 l (i : Int) = l[i] := by
  show l.getD ((i : Int)).toNat z26 = l[i]
  rw [Int.toNat_natCast, List.getD_eq_getElem?_getD, List.getElem?_eq_getElem hi]
  rfl
theorem few_rdI (l : List Int) (i : Nat) (hi : i < l.length) : rd l (i : Int) = l[i] := by
  show l.getD ((i : Int)).toNat 0 = l[i]
  rw [Int.toNat_natCast, List.getD_eq_getElem?_getD, List.getElem?_eq_getElem hi]
  rfl
def resOf : Option (List Int) → List Int × Bool
  | some r => (r, true)
  | none => ([], false)
theorem least_f (l : List WV) (i n : Nat) (k : Int) (h : 1 ≤ n → Ev (fun q => spec_l11Least.l0 q l (n : Int) k (i : Int)) (resOf (least (l.drop i) n k))) : Ev (fun q => spec_l11Least.f q l (i : Int) (n : Int) k) (resOf (least (l.drop i) n k)) := by
  by_cases c : n = 0
  · subst c
    rw [least_zero]
    have e : resOf (if k = 0 then some [] else none) = ([], k == 0) := by
      by_cases c : k = 0
      · subst c; rfl
      · rw [if_neg c, beq_eq_false_iff_ne.2 c]; rfl
    rw [e]
    exact Ev.step (f := fun _ => some ([], k == 0)) (fun q => by rw [spec_l11Least.f, if_pos (by rfl)]) (Ev.now _)
  · exact Ev.step (fun q => by rw [spec_l11Least.f, if_neg (by omega)]) (h (by omega))
theorem least_l0 (l : List WV) (hl : l.length ≤ 8) (hx : ∀ x ∈ l, 1 ≤ x.f2 ∧ x.f2 ≤ 15) (d : Nat) : ∀ (i n : Nat) (k : Int), i + d = l.length → 1 ≤ n → n ≤ 4 → Ev (fun q => spec_l11Least.l0 q l (n : Int) k (i : Int)) (resOf (least (l.drop i) n k)) := by
  induction d with
  | zero =>
    intro i n k hi hn hn4
    rw [List.drop_eq_nil_of_le (by omega)]
    obtain ⟨n, rfl⟩ : ∃ m, n = m + 1 := ⟨n - 1, by omega⟩
    exact Ev.step (f := fun _ => some ([], false)) (fun q => by rw [spec_l11Least.l0, if_neg (by omega)]) (Ev.now _)
  | succ d ih =>
    intro i n k hi hn hn4
    obtain ⟨n, rfl⟩ : ∃ m, n = m + 1 := ⟨n - 1, by omega⟩
    have hi2 : i < l.length := by omega
    have e0 := few_rd l i hi2
    have hm := hx l[i] (List.getElem_mem hi2)
    rw [List.drop_eq_getElem_cons hi2, least]
    obtain ⟨x, hxe⟩ : ∃ x, x = l[i] := ⟨_, rfl⟩
    rw [← hxe] at e0 hm ⊢
    have e1 : ((i + 1 : Nat) : Int) = (i : Int) + 1 := by omega
    have e2 : wrap64 (((n + 1 : Nat) : Int) - 1) = (n : Int) := by rw [wrap_id _ (by omega) (by omega)]; omega
    have F := least_f l (i + 1) n (cutI k x.f2) (fun h => ih (i + 1) n _ (by omega) h (by omega))
    have G := ih (i + 1) (n + 1) k (by omega) (by omega) hn4
    rw [e1] at F G
    cases h1 : least (l.drop (i + 1)) n (cutI k x.f2) with
    | some r =>
      have hr : r.length ≤ 4 := by
        obtain ⟨s, a, b, c, d⟩ := least_some _ _ _ _ h1
        rw [d, List.length_map]; omega
      have F2 : Ev (fun q => spec_l11Least.f q l ((i : Int) + 1) (n : Int) (cutI k x.f2)) (r, true) := by rw [h1] at F; exact F
      refine Ev.step (fun q => by rw [spec_l11Least.l0, if_pos (by omega), if_pos (by omega), e0, wrap_id ((i : Int) + 1) (by omega) (by omega), e2, wrap_id (15 - x.f2) (by omega) (by omega), show Go.bits .and .i64 k (15 - x.f2) = cutI k x.f2 from rfl]) (Ev.bind F2 ?_)
      dsimp only
      simp only [if_true, Option.bind_some, if_pos (show ([x.f0] : List Int).length + r.length < 17592186044416 by rw [List.length_singleton]; omega)]
      exact Ev.now _
    | none =>
      have F2 : Ev (fun q => spec_l11Least.f q l ((i : Int) + 1) (n : Int) (cutI k x.f2)) ([], false) := by rw [h1] at F; exact F
      refine Ev.step (fun q => by rw [spec_l11Least.l0, if_pos (by omega), if_pos (by omega), e0, wrap_id ((i : Int) + 1) (by omega) (by omega), e2, wrap_id (15 - x.f2) (by omega) (by omega), show Go.bits .and .i64 k (15 - x.f2) = cutI k x.f2 from rfl]) (Ev.bind F2 ?_)
      dsimp only
      simp only [Bool.false_eq_true, if_false]
      exact G
theorem first_l0 (l : List WV) (hl : l.length ≤ 8) (hx : ∀ x ∈ l, 1 ≤ x.f2 ∧ x.f2 ≤ 15) (k : Int) (d : Nat) : ∀ n : Nat, n + d = 5 → 1 ≤ n → Ev (fun q => spec_FewestFor.l0 q l k (n : Int)) (firstOf l k d n) := by
  induction d with
  | zero =>
    intro n hn h1
    exact Ev.step (f := fun _ => some ([], false)) (fun q => by rw [spec_FewestFor.l0, if_neg (by omega)]) (Ev.now _)
  | succ d ih =>
    intro n hn h1
    have F : Ev (fun q => spec_l11Least.f q l 0 (n : Int) k) (resOf (least l n k)) := by
      have := least_f l 0 n k (fun h => least_l0 l hl hx l.length 0 n k (by omega) h (by omega))
      rw [List.drop_zero] at this
      exact this
    have G := ih (n + 1) (by omega) (by omega)
    have e1 : ((n + 1 : Nat) : Int) = (n : Int) + 1 := by omega
    rw [e1] at G
    refine Ev.step (fun q => by rw [spec_FewestFor.l0, if_pos (by omega), wrap_id ((n : Int) + 1) (by omega) (by omega)]) (Ev.bind F ?_)
    rw [firstOf]
    cases h1 : least l n k with
    | some r => simp only [resOf, if_true]; exact Ev.now _
    | none => simp only [resOf, Bool.false_eq_true, if_false]; exact G
theorem few_cmp (x y : Int) : cmp_Compare_int.f x y = some (if x < y then -1 else if x > y then 1 else 0) := by
  unfold cmp_Compare_int.f cmp_isNaN_int.f
  simp only [Option.bind_some, bne_self_eq_false, Bool.false_eq_true, if_false]
  split
  · rfl
  · split <;> rfl
theorem cmp_l0 (a b : List Int) (ha : a.length ≤ 8) (d : Nat) : ∀ i : Nat, i + d = a.length → i ≤ b.length → Ev (fun q => slices_Compare_int_int.l0 q a b a (a.length : Int) (i : Int)) (cmpL (a.drop i) (b.drop i)) := by
  induction d with
  | zero =>
    intro i hi hb
    rw [List.drop_eq_nil_of_le (by omega)]
    by_cases c : a.length < b.length
    · rw [List.drop_eq_getElem_cons (show i < b.length by omega)]
      exact Ev.step (f := fun _ => some (-1)) (fun q => by rw [slices_Compare_int_int.l0, if_neg (by omega), if_pos (by omega)]) (Ev.now _)
    · rw [List.drop_eq_nil_of_le (show b.length ≤ i by omega)]
      exact Ev.step (f := fun _ => some 0) (fun q => by rw [slices_Compare_int_int.l0, if_neg (by omega), if_neg (by omega)]) (Ev.now _)
  | succ d ih =>
    intro i hi hb
    have hi2 : i < a.length := by omega
    rw [List.drop_eq_getElem_cons hi2]
    by_cases c : i < b.length
    · rw [List.drop_eq_getElem_cons c, cmpL]
      have G := ih (i + 1) (by omega) (by omega)
      have e1 : ((i + 1 : Nat) : Int) = (i : Int) + 1 := by omega
      rw [e1] at G
      refine Ev.step (fun q => by rw [slices_Compare_int_int.l0, if_pos (by omega), if_pos (by omega), if_pos (by omega), if_neg (by omega), if_pos (by omega), few_rdI a i hi2, few_rdI b i c, few_cmp, Option.bind_some, wrap_id ((i : Int) + 1) (by omega) (by omega)]) ?_
      by_cases c1 : a[i] < b[i]
      · simp only [if_pos c1]; exact Ev.now _
      · by_cases c2 : a[i] > b[i]
        · simp only [if_neg c1, if_pos c2]; exact Ev.now _
        · simp only [if_neg c1, if_neg c2, if_true]; exact G
    · rw [List.drop_eq_nil_of_le (show b.length ≤ i by omega)]
      exact Ev.step (f := fun _ => some 1) (fun q => by rw [slices_Compare_int_int.l0, if_pos (by omega), if_pos (by omega), if_pos (by omega), if_pos (by omega)]) (Ev.now _)
theorem cmp_ev (a b : List Int) (ha : a.length ≤ 8) : Ev (fun q => slices_Compare_int_int.f q a b) (cmpL a b) := by
  unfold slices_Compare_int_int.f
  exact cmp_l0 a b ha a.length 0 (by omega) (Nat.zero_le _)
theorem few_bit : ∀ (m : Fin 256) (i : Fin 8), Go.bits .and .i64 (shr .i64 (m.val : Int) (i.val : Int)) 1 = if m.val / 2 ^ i.val % 2 = 1 then 1 else 0 := by decide +kernel
theorem few_shl : ∀ n : Fin 9, shl .i64 1 (n.val : Int) = ((2 ^ n.val : Nat) : Int) := by decide +kernel
theorem few_inner (l : List WV) (hl : l.length ≤ 8) (k : Int) (best : List Int) (found : Bool) (M : Int) (m : Nat) (hm : m < 256) (d : Nat) : ∀ (i : Nat) (ids : List Int) (a : Int) (r : List Int × Bool), i + d = l.length → ids.length ≤ i →
    Ev (fun q => impl_FewestFor.l1 q l k best found (m : Int) (ids ++ (pick (l.drop i) (m / 2 ^ i)).map (·.f0)) (allOf (pick (l.drop i) (m / 2 ^ i)) a) M (m : Int) l (l.length : Int) (l.length : Int)) r →
    Ev (fun q => impl_FewestFor.l1 q l k best found (m : Int) ids a M (m : Int) l (l.length : Int) (i : Int)) r := by
  induction d with
  | zero =>
    intro i ids a r hi hn h
    rw [List.drop_eq_nil_of_le (by omega), pick, List.map_nil, List.append_nil] at h
    have e : i = l.length := by omega
    subst e
    exact h
  | succ d ih =>
    intro i ids a r hi hn h
    have hi2 : i < l.length := by omega
    have e0 := few_rd l i hi2
    have hb := few_bit ⟨m, hm⟩ ⟨i, by omega⟩
    have hp : m / 2 ^ i / 2 = m / 2 ^ (i + 1) := by rw [Nat.div_div_eq_div_mul, Nat.pow_succ]
    have e1 : ((i + 1 : Nat) : Int) = (i : Int) + 1 := by omega
    dsimp only at hb
    rw [List.drop_eq_getElem_cons hi2, pick, hp] at h
    obtain ⟨x, hxe⟩ : ∃ x, x = l[i] := ⟨_, rfl⟩
    rw [← hxe] at e0 h
    by_cases c : m / 2 ^ i % 2 = 1
    · rw [if_pos c] at hb h
      have G := ih (i + 1) (ids ++ [x.f0]) (orI a x.f2) r (by omega) (by rw [List.length_append, List.length_singleton]; omega) (by
        rw [List.append_assoc]
        exact h)
      rw [e1] at G
      exact Ev.step (fun q => by rw [impl_FewestFor.l1, if_pos (by omega), if_pos (by omega), if_pos (by omega), hb, if_pos rfl, if_pos (by omega), e0, wrap_id ((i : Int) + 1) (by omega) (by omega), show Go.bits .or .i64 a x.f2 = orI a x.f2 from rfl]) G
    · rw [if_neg c] at hb h
      have G := ih (i + 1) ids a r (by omega) (by omega) h
      rw [e1] at G
      exact Ev.step (fun q => by rw [impl_FewestFor.l1, if_pos (by omega), if_pos (by omega), if_pos (by omega), hb, if_neg (by decide), wrap_id ((i : Int) + 1) (by omega) (by omega)]) G
theorem found_new (l : List WV) (k : Int) (m : Nat) (q : List Int × Bool) (h : Found l k m q) (hc : restOf (pick l m) k = 0) (hn : q.2 = true → leL ((pick l m).map (·.f0)) q.1) : Found l k (m + 1) ((pick l m).map (·.f0), true) := by
  refine .inr ⟨rfl, ⟨m, hc, rfl⟩, fun j hj hcj => ?_⟩
  by_cases e : j = m
  · rw [e]; exact leL_self _
  · rcases h with ⟨_, h⟩ | ⟨h1, _, h4⟩
    · exact absurd hcj (h j (by omega))
    · exact leL_trans _ _ _ (hn h1) (h4 j (by omega) hcj)
theorem found_old (l : List WV) (k : Int) (m : Nat) (q : List Int × Bool) (h : Found l k m q) (hn : restOf (pick l m) k = 0 → q.2 = true ∧ leL q.1 ((pick l m).map (·.f0))) : Found l k (m + 1) q := by
  rcases h with ⟨h1, h⟩ | ⟨h1, h2, h4⟩
  · refine .inl ⟨h1, fun j hj hcj => ?_⟩
    by_cases e : j = m
    · rw [e] at hcj
      have := (hn hcj).1
      rw [h1] at this
      cases this
    · exact h j (by omega) hcj
  · refine .inr ⟨h1, h2, fun j hj hcj => ?_⟩
    by_cases e : j = m
    · rw [e] at hcj ⊢
      exact (hn hcj).2
    · exact h4 j (by omega) hcj
theorem few_impl (l : List WV) (hl : l.length ≤ 8) (hx : ∀ x ∈ l, 0 ≤ x.f2 ∧ x.f2 ≤ 15) (k : Int) (hk : 1 ≤ k ∧ k ≤ 15) : ∃ q, Found l k (2 ^ l.length) q ∧ Ev (fun f => impl_FewestFor.l0 f l k [] false (shl .i64 1 (l.length : Int)) 0) q := by
  have hM : shl .i64 1 (l.length : Int) = ((2 ^ l.length : Nat) : Int) := few_shl ⟨l.length, by omega⟩
  have h256 : 2 ^ l.length ≤ 256 := Nat.pow_le_pow_right (by decide) hl
  rw [hM]
  obtain ⟨M, hMe⟩ : ∃ M, M = 2 ^ l.length := ⟨_, rfl⟩
  rw [← hMe] at h256 ⊢
  refine Ev.loopE (fun f i (q : List Int × Bool) => impl_FewestFor.l0 f l k q.1 q.2 (M : Int) i) M (fun m q => Found l k m q) (fun q => Found l k M q)
    (fun q hq => ⟨q, hq, Ev.step (f := fun _ => some (q.1, q.2)) (fun f => by rw [impl_FewestFor.l0, if_neg (by omega)]) (Ev.now _)⟩)
    (fun m q hm hq => ?_) ([], false) (.inl ⟨rfl, fun j hj => absurd hj (Nat.not_lt_zero j)⟩)
  obtain ⟨p, hp⟩ : ∃ p, p = pick l m := ⟨_, rfl⟩
  have hsub : p.Sublist l := by rw [hp]; exact pick_sub l m
  have hc := cover_iff p k (by omega) (fun x h => hx x (hsub.subset h))
  have hlen : (p.map (·.f0)).length ≤ 8 := by rw [List.length_map]; have := hsub.length_le; omega
  have hnew := found_new l k m q hq
  have hold := found_old l k m q hq
  rw [← hp] at hnew hold
  have hcmp := cmp_ev (p.map (·.f0)) q.1 hlen
  have hanti := cmpL_anti (p.map (·.f0)) q.1
  have go : ∀ (q' : List Int × Bool) (r : List Int × Bool), (Ev (fun f => impl_FewestFor.l0 f l k q'.1 q'.2 (M : Int) ((m : Int) + 1)) r → Ev (fun f => impl_FewestFor.l1 f l k q.1 q.2 (m : Int) (p.map (·.f0)) (allOf p 0) (M : Int) (m : Int) l (l.length : Int) (l.length : Int)) r) → Ev (fun f => impl_FewestFor.l0 f l k q'.1 q'.2 (M : Int) ((m : Int) + 1)) r → Ev (fun f => impl_FewestFor.l0 f l k q.1 q.2 (M : Int) (m : Int)) r := fun q' r h1 h2 => by
    have := few_inner l hl k q.1 q.2 (M : Int) m (by omega) l.length 0 [] 0 r (by omega) (Nat.zero_le _) (by
      rw [List.drop_zero, Nat.pow_zero, Nat.div_one, List.nil_append, ← hp]
      exact h1 h2)
    exact Ev.step (fun f => by rw [impl_FewestFor.l0, if_pos (by omega)]; rfl) this
  obtain ⟨b, fd⟩ := q
  dsimp only at hnew hold hcmp hanti go ⊢
  obtain ⟨ids, hids⟩ : ∃ ids, ids = p.map (·.f0) := ⟨_, rfl⟩
  rw [← hids] at hnew hold hcmp hanti go
  cases fd with
  | false =>
    by_cases cv : Go.bits .and .i64 (allOf p 0) k = k
    · exact ⟨(ids, true), hnew (hc.1 cv) (fun h => by cases h), fun r => go (ids, true) r fun h => Ev.step (fun f => by rw [impl_FewestFor.l1, if_neg (by omega), if_neg (by decide), if_pos cv, wrap_id ((m : Int) + 1) (by omega) (by omega)]) h⟩
    · exact ⟨(b, false), hold (fun h => absurd (hc.2 h) cv), fun r => go (b, false) r fun h => Ev.step (fun f => by rw [impl_FewestFor.l1, if_neg (by omega), if_neg (by decide), if_neg cv, wrap_id ((m : Int) + 1) (by omega) (by omega)]) h⟩
  | true =>
    by_cases c1 : (ids.length : Int) < (b.length : Int)
    · by_cases cv : Go.bits .and .i64 (allOf p 0) k = k
      · exact ⟨(ids, true), hnew (hc.1 cv) (fun _ => .inl (by omega)), fun r => go (ids, true) r fun h => Ev.step (fun f => by rw [impl_FewestFor.l1, if_neg (by omega), if_pos rfl, if_pos c1, if_pos cv, wrap_id ((m : Int) + 1) (by omega) (by omega)]) h⟩
      · exact ⟨(b, true), hold (fun h => absurd (hc.2 h) cv), fun r => go (b, true) r fun h => Ev.step (fun f => by rw [impl_FewestFor.l1, if_neg (by omega), if_pos rfl, if_pos c1, if_neg cv, wrap_id ((m : Int) + 1) (by omega) (by omega)]) h⟩
    · by_cases c2 : (ids.length : Int) = (b.length : Int)
      · by_cases cv : Go.bits .and .i64 (allOf p 0) k = k
        · by_cases c3 : cmpL ids b < 0
          · exact ⟨(ids, true), hnew (hc.1 cv) (fun _ => .inr ⟨by omega, by omega⟩), fun r => go (ids, true) r fun h => Ev.step (fun f => by rw [impl_FewestFor.l1, if_neg (by omega), if_pos rfl, if_neg c1, if_pos c2]) (Ev.bind hcmp (by simp only [if_pos cv, if_pos c3, wrap_id ((m : Int) + 1) (show -9223372036854775808 ≤ (m : Int) + 1 by omega) (show (m : Int) + 1 ≤ 9223372036854775807 by omega)]; exact h))⟩
          · exact ⟨(b, true), hold (fun _ => ⟨rfl, .inr ⟨by omega, by omega⟩⟩), fun r => go (b, true) r fun h => Ev.step (fun f => by rw [impl_FewestFor.l1, if_neg (by omega), if_pos rfl, if_neg c1, if_pos c2]) (Ev.bind hcmp (by simp only [if_pos cv, if_neg c3, wrap_id ((m : Int) + 1) (show -9223372036854775808 ≤ (m : Int) + 1 by omega) (show (m : Int) + 1 ≤ 9223372036854775807 by omega)]; exact h))⟩
        · exact ⟨(b, true), hold (fun h => absurd (hc.2 h) cv), fun r => go (b, true) r fun h => Ev.step (fun f => by rw [impl_FewestFor.l1, if_neg (by omega), if_pos rfl, if_neg c1, if_pos c2]) (Ev.bind hcmp (by simp only [if_neg cv, wrap_id ((m : Int) + 1) (show -9223372036854775808 ≤ (m : Int) + 1 by omega) (show (m : Int) + 1 ≤ 9223372036854775807 by omega)]; exact h))⟩
      · exact ⟨(b, true), hold (fun _ => ⟨rfl, .inl (by omega)⟩), fun r => go (b, true) r fun h => Ev.step (fun f => by rw [impl_FewestFor.l1, if_neg (by omega), if_pos rfl, if_neg c1, if_neg c2, ite_self, wrap_id ((m : Int) + 1) (by omega) (by omega)]) h⟩
theorem okWvs_pair (t : List WV) (h : okWvs t = true) : t.Pairwise (fun a b => a.f0 < b.f0) := by
  unfold okWvs at h
  rw [Bool.and_eq_true, Bool.and_eq_true, Bool.and_eq_true, asc_iff idWv z26] at h
  have h3 := h.2.2.1
  have key : ∀ d i : Nat, i + d + 1 < t.length → (t.getD i z26).f0 < (t.getD (i + d + 1) z26).f0 := by
    intro d
    induction d with
    | zero => intro i hi; exact h3 i hi
    | succ d ih =>
      intro i hi
      have h1 : (t.getD i z26).f0 < (t.getD (i + d + 1) z26).f0 := ih i (by omega)
      have h2 : (t.getD (i + d + 1) z26).f0 < (t.getD (i + d + 1 + 1) z26).f0 := h3 (i + d + 1) (by omega)
      have h4 : i + (d + 1) + 1 = i + d + 1 + 1 := by omega
      rw [h4]
      omega
  rw [List.pairwise_iff_getElem]
  intro i j hi hj hij
  have := key (j - i - 1) i (by omega)
  rw [show i + (j - i - 1) + 1 = j by omega, List.getD_eq_getElem?_getD, List.getElem?_eq_getElem hi, List.getD_eq_getElem?_getD, List.getElem?_eq_getElem hj] at this
  exact this
theorem FewestFor_same (t : List WV) (ht : t.length ≤ 2000000) (t2 : ∀ x ∈ t, x.f1.size ≤ 1048576) (a : Int) : ∃ v : List Int × Bool, v.1.length ≤ 8 ∧ Ev (fun k => spec_FewestFor.f k t a) v ∧ Ev (fun k => impl_FewestFor.f k t a) v := by
  unfold spec_FewestFor.f impl_FewestFor.f
  simp only [AreWeavers_eq, few_l11Skills, few_areSkills, Option.bind_some]
  have hg := l11Good_ev t ht t2
  have js : Ev (fun k => spec_FewestFor.j0 k t a true) ([], false) := Ev.step (f := fun _ => some ([], false)) (fun k => by rw [spec_FewestFor.j0, if_pos rfl]) (Ev.now _)
  have ji : Ev (fun k => impl_FewestFor.j0 k t a true) ([], false) := Ev.step (f := fun _ => some ([], false)) (fun k => by rw [impl_FewestFor.j0, if_pos rfl]) (Ev.now _)
  cases hk : okWvs t with
  | false => exact ⟨([], false), by simp, Ev.bind hg (by simp only [hk, Bool.false_eq_true, if_false]; exact js), by simp only [Bool.false_eq_true, if_false]; exact ji⟩
  | true =>
    cases hc : rng a 1 15 with
    | false => exact ⟨([], false), by simp, Ev.bind hg (by simp only [hk, if_true, Bool.not_false]; exact js), by simp only [if_true, Bool.not_false]; exact ji⟩
    | true =>
      obtain ⟨h8, hx⟩ := okWvs_iff t hk
      have ha := (rng_iff _ _ _).1 hc
      obtain ⟨q, hq, hqe⟩ := few_impl t h8 (fun x h => ⟨by have := (hx x h).2.1; omega, (hx x h).2.1.2⟩) a ha
      have e := found_first t a ha (okWvs_pair t hk) (fun x h => ⟨by have := (hx x h).2.1; omega, (hx x h).2.1.2⟩) q hq
      have hs := first_l0 t h8 (fun x h => (hx x h).2.1) a 4 1 (by omega) (by omega)
      rw [← e] at hs
      refine ⟨q, ?_, Ev.bind hg ?_, ?_⟩
      · rcases hq with ⟨h1, _⟩ | ⟨_, ⟨j, _, h2⟩, _⟩
        · rw [h1]; simp
        · rw [h2, List.length_map]
          have := (pick_sub t j).length_le
          omega
      · simp only [hk, if_true, Bool.not_true]
        exact Ev.step (fun k => by rw [spec_FewestFor.j0, if_neg (by decide)]; rfl) hs
      · simp only [if_true, Bool.not_true]
        exact Ev.step (fun k => by rw [impl_FewestFor.j0, if_neg (by decide)]) hqe
theorem markText_l0 (d : Nat) : ∀ (x : Int) (s : ByteArray), 0 ≤ x → x.toNat ≤ d → s.size + x.toNat ≤ 20000000 → ∃ t, Ev (fun k => laws_markText.l0 k x s) t := by
  induction d with
  | zero =>
    intro x s h0 h1 h2
    exact ⟨_, Ev.step (f := fun _ => some _) (fun k => by rw [laws_markText.l0, if_neg (by omega), if_pos (by omega)]) (Ev.now _)⟩
  | succ d ih =>
    intro x s h0 h1 h2
    by_cases c : x > 0
    · have e1 : Int.tdiv x 10 = x / 10 := Int.tdiv_eq_ediv_of_nonneg h0
      have ez : (strOfNums [(wrap64 (48 + (Int.tmod x 10))) % 256]).size = 1 := rfl
      have es : ((strOfNums [(wrap64 (48 + (Int.tmod x 10))) % 256]) ++ s).size = 1 + s.size := by rw [ByteArray.size_append, ez]
      obtain ⟨t, ht⟩ := ih (x / 10) ((strOfNums [(wrap64 (48 + (Int.tmod x 10))) % 256]) ++ s) (by omega) (by omega) (by rw [es]; omega)
      refine ⟨t, Ev.step (fun k => ?_) ht⟩
      rw [laws_markText.l0, if_pos c, Option.bind_some, if_pos (by rw [ez]; omega), e1, wrap_id _ (by omega) (by omega)]
    · exact ⟨_, Ev.step (f := fun _ => some _) (fun k => by rw [laws_markText.l0, if_neg c, if_pos (by omega)]) (Ev.now _)⟩
theorem markText_ev (x : Int) (h : x ≤ 10000000) : ∃ t, Ev (fun k => laws_markText.f k x) t := by
  unfold laws_markText.f
  by_cases c : x ≤ 0
  · exact ⟨_, by simp only [if_pos c]; exact Ev.now _⟩
  · simp only [if_neg c]
    exact markText_l0 x.toNat x _ (by omega) (by omega) (by show 0 + x.toNat ≤ 20000000; omega)
theorem markWv_ev (l : List WV) (hl : l.length ≤ 1048576) : ∃ (m : Int) (t : List WV), 0 ≤ m ∧ Ev (fun k => laws_markWeaverS.f k l 1) (m, t) := by
  unfold laws_markWeaverS.f
  obtain ⟨⟨m, t⟩, hm, h⟩ := Ev.loopE (fun k i (q : Int × List WV) => laws_markWeaverS.l0 k q.2 q.1 i) l.length
    (fun i q => q.1 = 1 + 5 * (i : Int) ∧ q.2.length = l.length) (fun r => 0 ≤ r.1)
    (fun s hs => ⟨s, by omega, Ev.step (f := fun _ => some s) (fun k => by rw [laws_markWeaverS.l0, if_neg (by omega)]) (Ev.now s)⟩)
    (fun i s hi hs => by
      obtain ⟨h1, h2⟩ := hs
      obtain ⟨u, hu⟩ := markText_ev (s.1 + 1) (by omega)
      refine ⟨(s.1 + 5, _), ⟨by simp only; omega, ?_⟩, fun r h => Ev.step (fun k => by
        rw [laws_markWeaverS.l0, if_pos (by omega), if_pos (by omega), Option.bind_some, wrap_id (s.1 + 1) (by omega) (by omega)]) (Ev.bind hu (by
          simp only [Option.bind_some]
          rw [wrap_id (s.1 + 1 + 1) (by omega) (by omega), wrap_id (s.1 + 1 + 1 + 1) (by omega) (by omega), wrap_id (s.1 + 1 + 1 + 1 + 1) (by omega) (by omega), wrap_id (s.1 + 1 + 1 + 1 + 1 + 1) (by omega) (by omega), wrap_id ((i : Int) + 1) (by omega) (by omega), show s.1 + 1 + 1 + 1 + 1 + 1 = s.1 + 5 by omega]
          exact h))⟩
      simp [h2]) (1, l) ⟨by simp, rfl⟩
  exact ⟨m, t, hm, h⟩
theorem eqInts_ev (t : List Int) (ht : t.length ≤ 2000000) : Ev (fun k => laws_eqIntS.f k t t) true := by
  refine Ev.congr (f := fun k => laws_eqIntS.l0 k t t 0) (fun k => by unfold laws_eqIntS.f; rw [if_pos rfl]) ?_
  obtain ⟨r, hr, h⟩ := Ev.loopE (fun k i (_ : Unit) => laws_eqIntS.l0 k t t i) t.length (fun _ _ => True) (fun r => r = true)
    (fun s _ => ⟨true, rfl, Ev.step (fun k => by rw [laws_eqIntS.l0, if_neg (by omega)]) (Ev.now true)⟩)
    (fun i s hi _ => ⟨(), trivial, fun r h => Ev.step (fun k => by
      rw [laws_eqIntS.l0, if_pos (by omega), if_pos (by omega), if_pos (by omega), if_pos rfl, wrap_id _ (by omega) (by omega)]) h⟩) () trivial
  subst hr
  exact h
theorem held_ev (t : List Int) (ht : t.length ≤ 2000000) (h1 : ∀ j : Nat, j < t.length → t.getD j 0 = 1 + (j : Int)) : Ev (fun k => laws_heldIntS.f k t 1) (1 + (t.length : Int)) := by
  unfold laws_heldIntS.f
  obtain ⟨r, hr, h⟩ := Ev.loopE (fun k i (q : Int) => laws_heldIntS.l0 k t q i) t.length (fun i q => q = 1 + (i : Int)) (fun r => r = 1 + (t.length : Int))
    (fun s hs => ⟨s, hs, Ev.step (fun k => by rw [laws_heldIntS.l0, if_neg (by omega)]) (Ev.now s)⟩)
    (fun i s hi hs => ⟨s + 1, by omega, fun r h => Ev.step (fun k => by
      have hx : rd t (i : Int) = s := by rw [hs]; exact h1 i hi
      rw [laws_heldIntS.l0, if_pos (by omega), if_pos (by omega), if_pos hx, wrap_id _ (by omega) (by omega), wrap_id _ (by omega) (by omega)]) h⟩) 1 (by omega)
  subst hr
  exact h
theorem mark_ev (t : List Int) (ht : t.length ≤ 2000000) : ∃ t' : List Int, Ev (fun k => laws_markIntS.f k t 1) (1 + (t.length : Int), t') ∧ Ev (fun k => laws_heldIntS.f k t' 1) (1 + (t.length : Int)) := by
  unfold laws_markIntS.f
  obtain ⟨⟨m, t'⟩, ⟨hm, hl, hj⟩, h⟩ := Ev.loopE (fun k i (q : Int × List Int) => laws_markIntS.l0 k q.2 q.1 i) t.length
    (fun i q => q.1 = 1 + (i : Int) ∧ q.2.length = t.length ∧ ∀ j : Nat, j < i → q.2.getD j 0 = 1 + (j : Int)) (fun r => r.1 = 1 + (t.length : Int) ∧ r.2.length = t.length ∧ ∀ j : Nat, j < t.length → r.2.getD j 0 = 1 + (j : Int))
    (fun s hs => ⟨s, hs, Ev.step (fun k => by rw [laws_markIntS.l0, if_neg (by omega)]) (Ev.now s)⟩)
    (fun i s hi hs => ⟨(s.1 + 1, s.2.set i s.1), ⟨by have := hs.1; simp only; omega, by simp [hs.2.1], fun j hj => by
        have h2 := hs.2.1
        simp only [getD_set]
        by_cases e : i = j
        · subst e; rw [if_pos ⟨rfl, by omega⟩]; exact hs.1
        · rw [if_neg (fun h => e h.1)]; exact hs.2.2 j (by omega)⟩, fun r h => Ev.step (fun k => by
      have h1 := hs.1
      have h2 := hs.2.1
      rw [laws_markIntS.l0, if_pos (by omega), if_pos (by omega), wrap_id _ (by omega) (by omega), wrap_id _ (by omega) (by omega), Int.toNat_natCast]) h⟩) (1, t) ⟨by simp, rfl, fun j hj => absurd hj (by omega)⟩
  simp only at hm hl hj
  subst hm
  refine ⟨t', h, ?_⟩
  have := held_ev t' (by omega) (fun j hjj => hj j (by omega))
  rw [hl] at this
  exact this
theorem FnExactFewestFor (l0 : List (S23)) (a1 : Int) (q_l0 : (l0.length ≤ maxLen ∧ ∀ q ∈ l0, ((Lit.int .i64 q.f0).wf = true ∧ q.f1.size ≤ maxLen ∧ (Lit.int .i64 q.f2).wf = true ∧ (Lit.int .i64 q.f3).wf = true ∧ (Lit.int .i64 q.f4).wf = true))) (q_a1 : (Lit.int .i64 a1).wf = true) : ∃ k, laws_FnExactFewestFor.f k l0 a1 = some true := by
  obtain ⟨r, hr, K1, h1⟩ := szWv_ev l0 q_l0.1 (fun q hq => (q_l0.2 q hq).2.1)
  by_cases h0 : r < 0
  · refine ⟨K1, ?_⟩
    have h1 := h1 K1 (Nat.le_refl _)
    dsimp only at h1
    unfold laws_FnExactFewestFor.f
    rw [h1, Option.bind_some, if_pos h0]
  · obtain ⟨z1, z2⟩ := hr (by omega)
    obtain ⟨t, ⟨t1, t2⟩, K2, h2⟩ := toWv_ev l0 z1 z2
    obtain ⟨v, hv, ⟨K3, h3⟩, K5, h5⟩ := FewestFor_same t (by omega) t2 a1
    obtain ⟨K4, h4⟩ := eqWv_ev t (by omega)
    obtain ⟨m, t', hm, K6, h6⟩ := markWv_ev t (by omega)
    obtain ⟨K7, h7⟩ := eqInts_ev v.1 (by omega)
    obtain ⟨g', ⟨K8, h8⟩, K9, h9⟩ := mark_ev v.1 (by omega)
    obtain ⟨N, hN⟩ : ∃ N, N = K1 + K2 + K3 + K4 + K5 + K6 + K7 + K8 + K9 := ⟨_, rfl⟩
    replace h1 := fun j => h1 (N + j) (by omega)
    replace h2 := fun j => h2 (N + j) (by omega)
    replace h3 := fun j => h3 (N + j) (by omega)
    replace h4 := fun j => h4 (N + j) (by omega)
    replace h5 := fun j => h5 (N + j) (by omega)
    replace h6 := fun j => h6 (N + j) (by omega)
    replace h7 := fun j => h7 (N + j) (by omega)
    replace h8 := fun j => h8 (N + j) (by omega)
    replace h9 := fun j => h9 (N + j) (by omega)
    dsimp only at h1 h2 h3 h4 h5 h6 h7 h8 h9
    refine ⟨N + 4, ?_⟩
    have n1 : ¬ m < 0 := by omega
    have n2 : ¬ 1 + (v.1.length : Int) < 0 := by omega
    unfold laws_FnExactFewestFor.f
    simp only [h1, h2, h3, h4, h5, h6, h7, h8, h9, h0, n1, n2, laws_FnExactFewestFor.j0, laws_FnExactFewestFor.j1, laws_FnExactFewestFor.j2, Option.bind_some, if_false, if_true, bne_self_eq_false, Bool.false_eq_true]
end Go.Proofs.YthalifhbjioaeaaDoor.Pure
