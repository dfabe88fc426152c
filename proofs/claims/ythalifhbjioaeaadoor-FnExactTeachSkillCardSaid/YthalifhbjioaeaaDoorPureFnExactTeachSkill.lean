/- The plain law of FnExactTeachSkill: what the program's functions compute is what the reference's compute. No program and no memory in it. -/
import Derived.Test.YthalifhbjioaeaaDoorHx31
import Derived.Test.YthalifhbjioaeaaDoorLps
namespace Go.Proofs.YthalifhbjioaeaaDoor.Pure
open Go.RowKit Go.Proofs.YthalifhbjioaeaaDoorW.PrintWords Go.Proofs.YthalifhbjioaeaaDoorW.PrintLast Go.Proofs.YthalifhbjioaeaaDoor.H
set_option linter.unusedVariables false
set_option linter.unusedSimpArgs false
theorem l1In_eq (a b c : Int) : spec_l1In.f a b c = some (rng a b c) := spec_l1In.eq a b c
theorem in_eq (a b c : Int) : impl_in.f a b c = some (rng a b c) := impl_in.eq a b c
theorem word_at (s : ByteArray) (i : Nat) (hi : i < s.size) : bt s (i : Int) = (((s.data.toList)[i]'(by simpa using hi)).toNat : Int) := by
  unfold bt
  rw [dif_pos (by simpa using hi)]
  rfl
theorem l2Word_ev (s : ByteArray) (hs : s.size ≤ 2000000) : Ev (fun k => spec_l2Word.f k s) (isWordB s) := by
  unfold spec_l2Word.f
  have e : isWordB s = ((List.range s.size).all (fun i => decide (97 ≤ bt s (i : Int)) && decide (bt s (i : Int) ≤ 122)) && rng (s.size : Int) 1 10) := by
    unfold isWordB
    rw [Bool.and_comm]
    congr 1
    rw [Bool.eq_iff_iff, all_range, List.all_eq_true]
    constructor
    · intro h i hi
      have := h _ (List.getElem_mem (by simpa using hi : i < s.data.toList.length))
      rw [word_at s i hi]
      rw [Bool.and_eq_true, decide_eq_true_iff, decide_eq_true_iff] at this ⊢
      omega
    · intro h b hb
      obtain ⟨i, hi, rfl⟩ := List.getElem_of_mem hb
      have hi' : i < s.size := by simpa using hi
      have := h i hi'
      rw [word_at s i hi'] at this
      rw [Bool.and_eq_true, decide_eq_true_iff, decide_eq_true_iff] at this ⊢
      omega
  rw [e]
  refine Ev.scan (fun k i => spec_l2Word.l0 k s i) s.size _ _ (Ev.step (f := fun _ => some _) (fun k => ?_) (Ev.now _)) ?_ ?_
  · rw [spec_l2Word.l0, if_neg (by omega), l1In_eq]
    rfl
  · intro i hi hg
    refine Ev.step (f := fun _ => some false) (fun k => ?_) (Ev.now _)
    rw [spec_l2Word.l0, if_pos (by omega), if_pos (by omega)]
    by_cases c : bt s (i : Int) < 97
    · rw [if_pos c]
    · rw [if_neg c, if_pos]
      rw [Bool.and_eq_false_iff, decide_eq_false_iff_not, decide_eq_false_iff_not] at hg
      omega
  · intro i r hi hg hr
    refine Ev.step (fun k => ?_) hr
    rw [Bool.and_eq_true, decide_eq_true_iff, decide_eq_true_iff] at hg
    rw [spec_l2Word.l0, if_pos (by omega), if_pos (by omega), if_neg (by omega), if_neg (by omega), wrap_id _ (by omega) (by omega)]
abbrev WV := S26
theorem l11One_ev (x : WV) (hs : x.f1.size ≤ 2000000) : Ev (fun k => spec_l11One.f k x.f0 x.f1 x.f2 x.f3 x.f4) (okWv x) := by
  unfold spec_l11One.f spec_l11Skills.f okWv
  simp only [l1In_eq, Option.bind_some]
  cases rng x.f0 1 99 with
  | false => exact Ev.now _
  | true =>
    simp only [if_true, Bool.true_and]
    refine Ev.bind (l2Word_ev x.f1 hs) ?_
    cases isWordB x.f1 with
    | false => exact Ev.now _
    | true =>
      simp only [if_true, Bool.true_and]
      cases rng x.f2 1 15 <;> cases rng x.f3 100 12000 <;> exact Ev.now _
theorem ext_getD {α : Type} (z : α) (a b : List α) (hl : a.length = b.length) (h : ∀ j, j < a.length → a.getD j z = b.getD j z) : a = b := by
  apply List.ext_getElem hl
  intro j h1 h2
  have := h j h1
  rwa [List.getD_eq_getElem?_getD, List.getD_eq_getElem?_getD, List.getElem?_eq_getElem h1, List.getElem?_eq_getElem h2] at this
theorem take_succ_getD {α : Type} (z : α) (a : List α) (i : Nat) (h : i < a.length) : a.take (i + 1) = a.take i ++ [a.getD i z] := by
  rw [List.take_succ_eq_append_getElem h, List.getD_eq_getElem?_getD, List.getElem?_eq_getElem h]
  rfl
theorem getD_map' {α β : Type} (f : α → β) (z : α) (y : β) (a : List α) (i : Nat) (h : i < a.length) : (a.map f).getD i y = f (a.getD i z) := by
  rw [List.getD_eq_getElem?_getD, List.getElem?_map, List.getD_eq_getElem?_getD, List.getElem?_eq_getElem h]
  rfl
theorem set_mid {α : Type} (f : α → α) (z : α) (a : List α) (i : Nat) (h : i < a.length) : ((a.take i).map f ++ a.drop i).set i (f (a.getD i z)) = (a.take (i + 1)).map f ++ a.drop (i + 1) := by
  have e : a.drop i = a.getD i z :: a.drop (i + 1) := by
    rw [List.drop_eq_getElem_cons h, List.getD_eq_getElem?_getD, List.getElem?_eq_getElem h]
    rfl
  rw [e, take_succ_getD z a i h, List.map_append, List.append_assoc]
  have hl : ((a.take i).map f).length = i := by rw [List.length_map, List.length_take]; omega
  rw [List.set_append_right _ _ (by omega), hl, Nat.sub_self]
  rfl
theorem mid_getD {α : Type} (f : α → α) (z : α) (a : List α) (i : Nat) (h : i < a.length) : ((a.take i).map f ++ a.drop i).getD i z = a.getD i z := by
  have hl : ((a.take i).map f).length = i := by rw [List.length_map, List.length_take]; omega
  rw [List.getD_eq_getElem?_getD, List.getElem?_append_right (by omega), hl, Nat.sub_self, List.getElem?_drop, Nat.add_zero, List.getD_eq_getElem?_getD]
theorem mid_length {α : Type} (f : α → α) (a : List α) (i : Nat) : ((a.take i).map f ++ a.drop i).length = a.length := by
  rw [List.length_append, List.length_map, List.length_take, List.length_drop]; omega
abbrev LV := S23
theorem szWv_ev (l : List LV) (hm : l.length ≤ maxLen) (hq : ∀ q ∈ l, q.f1.size ≤ maxLen) : ∃ r : Int, (0 ≤ r → l.length ≤ 1048576 ∧ ∀ j : Nat, j < l.length → (l.getD j z23).f1.size ≤ 1048576) ∧ Ev (fun k => laws_szWeaverS.f k l 1048576) r := by
  have hm' : l.length ≤ 9223372036854775807 := hm
  unfold laws_szWeaverS.f
  by_cases hl : (l.length : Int) ≤ 1048576
  · rw [wrap_id _ (by omega) (by omega)]
    simp only [if_neg (show ¬ (1048576 - (l.length : Int)) < 0 by omega)]
    have key : ∀ d i : Nat, ∀ q : Int, i + d = l.length → 0 ≤ q → q ≤ 1048576 → ∃ r : Int, (0 ≤ r → ∀ j : Nat, i ≤ j → j < l.length → (l.getD j z23).f1.size ≤ 1048576) ∧ Ev (fun k => laws_szWeaverS.l0 k l q (i : Int)) r := by
      intro d
      induction d with
      | zero =>
        intro i q hi h0 h1
        exact ⟨q, fun _ j h2 h3 => by omega, Ev.step (f := fun _ => some q) (fun k => by rw [laws_szWeaverS.l0, if_neg (by omega)]) (Ev.now _)⟩
      | succ d ih =>
        intro i q hi h0 h1
        have hmem : l.getD i z23 ∈ l := by
          rw [List.getD_eq_getElem?_getD, List.getElem?_eq_getElem (by omega)]
          exact List.getElem_mem (by omega)
        have hz : (l.getD i z23).f1.size ≤ 9223372036854775807 := hq _ hmem
        have e0 : rd_T23 l (i : Int) = l.getD i z23 := rfl
        obtain ⟨x, hx⟩ : ∃ x, x = l.getD i z23 := ⟨_, rfl⟩
        rw [← hx] at hz e0
        by_cases c : q - (x.f1.size : Int) < 0
        · refine ⟨-1, fun h => absurd h (by omega), Ev.step (f := fun _ => some (-1)) (fun k => ?_) (Ev.now _)⟩
          rw [laws_szWeaverS.l0, if_pos (by omega), if_pos (by omega), e0]
          unfold laws_szWeaver.f
          rw [wrap_id _ (by omega) (by omega), if_pos c, Option.bind_some, if_pos (by omega)]
        · obtain ⟨r, hr, h2⟩ := ih (i + 1) (q - (x.f1.size : Int)) (by omega) (by omega) (by omega)
          refine ⟨r, fun h j h3 h4 => ?_, Ev.step (fun k => ?_) h2⟩
          · by_cases e : j = i
            · rw [e, ← hx]; omega
            · exact hr h j (by omega) h4
          · rw [laws_szWeaverS.l0, if_pos (by omega), if_pos (by omega), e0]
            unfold laws_szWeaver.f
            rw [wrap_id (q - (x.f1.size : Int)) (by omega) (by omega), if_neg c, Option.bind_some, if_neg c, wrap_id _ (by omega) (by omega)]
            rw [show (i : Int) + 1 = ((i + 1 : Nat) : Int) by omega]
    obtain ⟨r, hr, h⟩ := key l.length 0 (1048576 - (l.length : Int)) (by omega) (by omega) (by omega)
    exact ⟨r, fun h0 => ⟨by omega, fun j hj => hr h0 j (Nat.zero_le _) hj⟩, h⟩
  · rw [wrap_id _ (by omega) (by omega)]
    simp only [if_pos (show (1048576 - (l.length : Int)) < 0 by omega)]
    exact ⟨-1, fun h => absurd h (by omega), Ev.now _⟩
theorem toWv_ev (l : List LV) (hl : l.length ≤ 1048576) (hz : ∀ j : Nat, j < l.length → (l.getD j z23).f1.size ≤ 1048576) : ∃ t : List WV, (t.length = l.length ∧ ∀ x ∈ t, x.f1.size ≤ 1048576) ∧ Ev (fun k => laws_toWeaverS.f k l) t := by
  obtain ⟨r, hr, h⟩ := Ev.loopE (fun k i (s : List WV) => laws_toWeaverS.l0 k l s i) l.length (fun _ s => s.length = l.length ∧ ∀ x ∈ s, x.f1.size ≤ 1048576) (fun r => r.length = l.length ∧ ∀ x ∈ r, x.f1.size ≤ 1048576)
    (fun s hs => ⟨s, hs, Ev.step (fun k => by rw [laws_toWeaverS.l0, if_neg (by omega)]) (Ev.now s)⟩)
    (fun i s hi hs => ⟨s.set i ⟨(rd_T23 l i).f0, (rd_T23 l i).f1, (rd_T23 l i).f2, (rd_T23 l i).f3, (rd_T23 l i).f4⟩, ⟨by simp [hs.1], fun x hx => by
        rcases List.mem_or_eq_of_mem_set hx with h | h
        · exact hs.2 x h
        · rw [h]; exact hz i hi⟩, fun r h => Ev.step (fun k => by
      have := hs.1
      rw [laws_toWeaverS.l0, if_pos (by omega), if_pos (by omega)]
      simp only [laws_toWeaver.f, Option.bind_some]
      rw [if_pos (by omega), wrap_id _ (by omega) (by omega), Int.toNat_natCast]) h⟩) (List.replicate l.length z26) ⟨by simp, fun x hx => by rw [(List.mem_replicate.1 hx).2]; decide⟩
  refine ⟨r, hr, Ev.congr (fun k => ?_) h⟩
  unfold laws_toWeaverS.f
  rw [if_pos (by omega), if_pos (by omega), Int.toNat_natCast]
theorem eqWv_ev (t : List WV) (ht : t.length ≤ 2000000) : Ev (fun k => laws_eqWeaverS.f k t t) true := by
  refine Ev.congr (f := fun k => laws_eqWeaverS.l0 k t t 0) (fun k => by unfold laws_eqWeaverS.f; rw [if_pos rfl]) ?_
  obtain ⟨r, hr, h⟩ := Ev.loopE (fun k i (_ : Unit) => laws_eqWeaverS.l0 k t t i) t.length (fun _ _ => True) (fun r => r = true)
    (fun s _ => ⟨true, rfl, Ev.step (fun k => by rw [laws_eqWeaverS.l0, if_neg (by omega)]) (Ev.now true)⟩)
    (fun i s hi _ => ⟨(), trivial, fun r h => Ev.step (fun k => by
      rw [laws_eqWeaverS.l0, if_pos (by omega), if_pos (by omega), if_pos (by omega)]
      simp only [laws_eqWeaver.f, if_true, Option.bind_some]
      rw [wrap_id _ (by omega) (by omega)]) h⟩) () trivial
  subst hr
  exact h
theorem seats_ev (l : List WV) (a : Int) (hl : l.length ≤ 2000000) : Ev (fun k => spec_l11Seats.f k l a) (sitN l a) := by
  unfold spec_l11Seats.f
  obtain ⟨r, hr, h⟩ := Ev.loopE (fun k i (s : Int) => spec_l11Seats.l0 k l a s i) l.length (fun i s => s = (((l.take i).filter fun x => decide (x.f4 = a)).length : Int)) (fun r => r = sitN l a)
    (fun s hs => ⟨s, by rw [hs, List.take_length]; rfl, Ev.step (f := fun _ => some s) (fun k => by rw [spec_l11Seats.l0, if_neg (by omega)]) (Ev.now _)⟩)
    (fun i s hi hs => by
      have hle : ((l.take i).filter fun x => decide (x.f4 = a)).length ≤ (l.take i).length := List.length_filter_le _ _
      have hle2 : (l.take i).length ≤ i := List.length_take_le _ _
      have et : l.take (i + 1) = l.take i ++ [l[i]] := List.take_succ_eq_append_getElem hi
      have e0 : rd_T26 l (i : Int) = l[i] := by
        show l.getD ((i : Int)).toNat z26 = l[i]
        rw [Int.toNat_natCast, List.getD_eq_getElem?_getD, List.getElem?_eq_getElem hi]
        rfl
      by_cases c : l[i].f4 = a
      · refine ⟨s + 1, by rw [et, List.filter_append, List.length_append, hs]; simp [c], fun r h => Ev.step (fun k => ?_) h⟩
        rw [spec_l11Seats.l0, if_pos (by omega), if_pos (by omega), e0, if_pos c, wrap_id (s + 1) (by omega) (by omega), wrap_id _ (by omega) (by omega)]
      · refine ⟨s, by rw [et, List.filter_append, List.length_append, hs]; simp [c], fun r h => Ev.step (fun k => ?_) h⟩
        rw [spec_l11Seats.l0, if_pos (by omega), if_pos (by omega), e0, if_neg c, wrap_id _ (by omega) (by omega)]) 0 (by simp)
  subst hr
  exact h
def okWvs (l : List WV) : Bool := decide ((l.length : Int) ≤ 8) && (l.all okWv && (asc idWv l && l.all (seatOk l)))
theorem AreWeavers_eq (l : List WV) : impl_AreWeavers.f l = some (okWvs l) := rfl
theorem l11Good_ev (l : List WV) (hl : l.length ≤ 2000000) (hz : ∀ x ∈ l, x.f1.size ≤ 1048576) : Ev (fun k => spec_l11Good.f k l) (okWvs l) := by
  unfold spec_l11Good.f
  have e : okWvs l = ((List.range l.length).all (fun i => okWv (l.getD i z26) && ((decide (i = 0) || decide ((l.getD (i - 1) z26).f0 < (l.getD i z26).f0)) && seatOk l (l.getD i z26))) && decide ((l.length : Int) ≤ 8)) := by
    unfold okWvs
    rw [Bool.and_comm]
    congr 1
    rw [Bool.eq_iff_iff, all_range, Bool.and_eq_true, Bool.and_eq_true, all_getD z26, all_getD z26, asc_iff idWv z26]
    constructor
    · rintro ⟨h1, h2, h3⟩ i hi
      rw [Bool.and_eq_true, Bool.and_eq_true, Bool.or_eq_true, decide_eq_true_iff, decide_eq_true_iff]
      refine ⟨h1 i hi, ?_, h3 i hi⟩
      by_cases e : i = 0
      · exact .inl e
      · have := h2 (i - 1) (by omega)
        rw [show i - 1 + 1 = i by omega] at this
        exact .inr this
    · intro h
      refine ⟨fun i hi => ?_, fun i hi => ?_, fun i hi => ?_⟩
      · have := h i hi
        rw [Bool.and_eq_true] at this
        exact this.1
      · have := h (i + 1) hi
        rw [Bool.and_eq_true, Bool.and_eq_true, Bool.or_eq_true, decide_eq_true_iff, decide_eq_true_iff] at this
        rcases this.2.1 with h | h
        · omega
        · exact h
      · have := h i hi
        rw [Bool.and_eq_true, Bool.and_eq_true] at this
        exact this.2.2
  rw [e]
  have hone : ∀ i : Nat, i < l.length → Ev (fun k => spec_l11One.f k (l.getD i z26).f0 (l.getD i z26).f1 (l.getD i z26).f2 (l.getD i z26).f3 (l.getD i z26).f4) (okWv (l.getD i z26)) := fun i hi => l11One_ev _ (by
    have : l.getD i z26 ∈ l := by
      rw [List.getD_eq_getElem?_getD, List.getElem?_eq_getElem hi]
      exact List.getElem_mem hi
    have := hz _ this
    omega)
  -- one round, told by what holds of the element
  have round : ∀ (i : Nat) (r : Bool), i < l.length → (∀ b, b = (okWv (l.getD i z26) && ((decide (i = 0) || decide ((l.getD (i - 1) z26).f0 < (l.getD i z26).f0)) && seatOk l (l.getD i z26))) → (b = true → Ev (fun k => spec_l11Good.l0 k l ((i : Int) + 1)) r) → (b = false → r = false) → Ev (fun k => spec_l11Good.l0 k l (i : Int)) r) := by
    intro i r hi b hb ht hf
    have h1 := hone i hi
    have e0 : rd_T26 l (i : Int) = l.getD i z26 := rfl
    have ep : 0 < i → rd_T26 l ((i : Int) - 1) = l.getD (i - 1) z26 := fun h => by
      show l.getD ((i : Int) - 1).toNat z26 = _
      rw [show ((i : Int) - 1).toNat = i - 1 by omega]
    obtain ⟨x, hx⟩ : ∃ x, x = l.getD i z26 := ⟨_, rfl⟩
    rw [← hx] at h1 e0 hb
    have w1 : wrap64 ((i : Int) - 1) = (i : Int) - 1 := wrap_id _ (by omega) (by omega)
    have w2 : wrap64 ((i : Int) + 1) = (i : Int) + 1 := wrap_id _ (by omega) (by omega)
    refine Ev.step (fun k => by rw [spec_l11Good.l0, if_pos (by omega), if_pos (by omega), e0, w1, w2]) (Ev.bind h1 ?_)
    cases ho : okWv x with
    | false =>
      rw [ho, Bool.false_and] at hb
      rw [hf hb]
      simp only [Bool.false_eq_true, if_false]
      exact Ev.now _
    | true =>
      rw [ho, Bool.true_and] at hb
      simp only [if_true]
      have hf4 : 0 ≤ x.f4 := by
        unfold okWv at ho
        simp only [Bool.and_eq_true, rng_iff] at ho
        omega
      have tail : (b = true → Ev (fun k => spec_l11Good.l0 k l ((i : Int) + 1)) r) → (seatOk l x = b) → Ev (fun k => if x.f4 > 0 then (spec_l11Seats.f k l x.f4).bind fun t => if t > 3 then some false else spec_l11Good.l0 k l ((i : Int) + 1) else spec_l11Good.l0 k l ((i : Int) + 1)) r := by
        intro ht hs
        by_cases c : x.f4 > 0
        · simp only [if_pos c]
          refine Ev.bind (seats_ev l x.f4 hl) ?_
          by_cases c3 : sitN l x.f4 > 3
          · simp only [if_pos c3]
            rw [hf (by rw [← hs]; unfold seatOk; rw [decide_eq_false (by omega), decide_eq_false (by omega)]; rfl)]
            exact Ev.now _
          · simp only [if_neg c3]
            exact ht (by rw [← hs]; unfold seatOk; rw [decide_eq_true (show sitN l x.f4 ≤ 3 by omega)]; simp)
        · simp only [if_neg c]
          exact ht (by rw [← hs]; unfold seatOk; rw [decide_eq_true (show x.f4 = 0 by omega)]; rfl)
      by_cases ci : i = 0
      · simp only [if_neg (show ¬ (i : Int) > 0 by omega)]
        exact tail ht (by rw [hb, decide_eq_true ci]; simp)
      · simp only [if_pos (show (i : Int) > 0 by omega), if_pos (show 0 ≤ (i : Int) - 1 by omega), if_pos (show (i : Int) - 1 < (l.length : Int) by omega), ep (by omega)]
        rw [decide_eq_false ci, Bool.false_or] at hb
        by_cases cc : (l.getD (i - 1) z26).f0 ≥ x.f0
        · simp only [if_pos cc]
          rw [hf (by rw [hb, decide_eq_false (by omega)]; rfl)]
          exact Ev.now _
        · simp only [if_neg cc]
          exact tail ht (by rw [hb, decide_eq_true (by omega)]; simp)
  refine Ev.scan (fun k i => spec_l11Good.l0 k l i) l.length _ _ (Ev.step (f := fun _ => some _) (fun k => by rw [spec_l11Good.l0, if_neg (by omega)]) (Ev.now _)) ?_ ?_
  · intro i hi hg
    exact round i false hi _ rfl (fun h => by rw [hg] at h; cases h) (fun _ => rfl)
  · intro i r hi hg hr
    exact round i r hi _ rfl (fun _ => hr) (fun h => by rw [hg] at h; cases h)
theorem bits_low : ∀ n : Fin 16, Go.bits .and .i64 (n.val : Int) 1 = 0 ∨ Go.bits .and .i64 (n.val : Int) 1 = 1 := by decide +kernel
theorem bits_low' (x : Int) (h : 1 ≤ x ∧ x ≤ 15) : Go.bits .and .i64 x 1 = 0 ∨ Go.bits .and .i64 x 1 = 1 := by
  have := bits_low ⟨x.toNat, by omega⟩
  rwa [show ((⟨x.toNat, by omega⟩ : Fin 16).val : Int) = x by show ((x.toNat : Nat) : Int) = x; omega] at this
theorem okWvs_iff (l : List WV) (h : okWvs l = true) : l.length ≤ 8 ∧ ∀ x ∈ l, (1 ≤ x.f0 ∧ x.f0 ≤ 99) ∧ (1 ≤ x.f2 ∧ x.f2 ≤ 15) ∧ (100 ≤ x.f3 ∧ x.f3 ≤ 12000) ∧ 0 ≤ x.f4 ∧ x.f4 ≤ 99 := by
  unfold okWvs at h
  rw [Bool.and_eq_true, Bool.and_eq_true, decide_eq_true_iff] at h
  refine ⟨by omega, fun x hx => ?_⟩
  have := List.all_eq_true.1 h.2.1 x hx
  unfold okWv at this
  simp only [Bool.and_eq_true, rng_iff] at this
  exact ⟨this.1, this.2.2.1, this.2.2.2.1, this.2.2.2.2⟩
theorem getD_mem {α : Type} (z : α) (l : List α) (i : Nat) (hi : i < l.length) : l.getD i z ∈ l := by
  rw [List.getD_eq_getElem?_getD, List.getElem?_eq_getElem hi]
  exact List.getElem_mem hi
theorem find_ev (l : List WV) (a : Int) (hl : l.length ≤ 2000000) : ∃ r : Int, r = findI (fun x => decide (x.f0 = a)) l ∧ (r = -1 ∨ (0 ≤ r ∧ r < (l.length : Int))) ∧ Ev (fun k => spec_l11Find.f k l a) r := by
  unfold spec_l11Find.f
  have key : ∀ d i : Nat, i + d = l.length → (∀ j : Nat, j < i → decide ((l.getD j z26).f0 = a) = false) → ∃ r : Int, r = findI (fun x => decide (x.f0 = a)) l ∧ (r = -1 ∨ (0 ≤ r ∧ r < (l.length : Int))) ∧ Ev (fun k => spec_l11Find.l0 k l a (i : Int)) r := by
    intro d
    induction d with
    | zero =>
      intro i hi h
      exact ⟨-1, (findI_miss (fun x : WV => decide (x.f0 = a)) z26 l (fun j hj => h j (by omega))).symm, .inl rfl, Ev.step (f := fun _ => some (-1)) (fun k => by rw [spec_l11Find.l0, if_neg (by omega)]) (Ev.now _)⟩
    | succ d ih =>
      intro i hi h
      have e0 : rd_T26 l (i : Int) = l.getD i z26 := rfl
      by_cases c : (l.getD i z26).f0 = a
      · exact ⟨(i : Int), (findI_hit (fun x : WV => decide (x.f0 = a)) z26 l i (by omega) h (decide_eq_true c)).symm, .inr ⟨by omega, by omega⟩, Ev.step (f := fun _ => some (i : Int)) (fun k => by rw [spec_l11Find.l0, if_pos (by omega), if_pos (by omega), e0, if_pos c]) (Ev.now _)⟩
      · obtain ⟨r, h1, h2, h3⟩ := ih (i + 1) (by omega) (fun j hj => by
          by_cases e : j = i
          · rw [e]; exact decide_eq_false c
          · exact h j (by omega))
        have e : ((i + 1 : Nat) : Int) = (i : Int) + 1 := by omega
        rw [e] at h3
        exact ⟨r, h1, h2, Ev.step (fun k => by rw [spec_l11Find.l0, if_pos (by omega), if_pos (by omega), e0, if_neg c, wrap_id _ (by omega) (by omega)]) h3⟩
  exact key l.length 0 (by omega) (fun j hj => absurd hj (by omega))
theorem with_ev (l : List WV) (hl : l.length ≤ 1048576) (t2 : ∀ x ∈ l, x.f1.size ≤ 1048576) (i : Int) (h0 : 0 ≤ i) (h1 : i < (l.length : Int)) (x : WV) (hx : x.f1.size ≤ 1048576) : Ev (fun k => spec_l11With.f k l i x.f0 x.f1 x.f2 x.f3 x.f4) (if okWvs (l.set i.toNat x) = true then (l.set i.toNat x, true) else ([], false)) := by
  unfold spec_l11With.f
  simp only [Option.bind_some, List.nil_append, List.length_nil, if_pos (show 0 + l.length < 2932031007402 by omega), if_pos h0, if_pos h1]
  refine Ev.bind (l11Good_ev (l.set i.toNat x) (by rw [List.length_set]; omega) (fun y hy => by
    rcases List.mem_or_eq_of_mem_set hy with h | h
    · exact t2 y h
    · rw [h]; exact hx)) ?_
  cases okWvs (l.set i.toNat x) <;> exact Ev.now _
theorem findWeaver_eq (l : List WV) (a : Int) : impl_findWeaver.f l a = some (if okWvs l = true then findI (fun x => decide (x.f0 = a)) l else -1) := by
  unfold impl_findWeaver.f
  rw [AreWeavers_eq, Option.bind_some]
theorem skill_bits : ∀ n : Fin 16, (Go.bits .and .i64 (n.val : Int) 1 = 0 ∨ Go.bits .and .i64 (n.val : Int) 1 = 1) ∧ (Go.bits .and .i64 (n.val : Int) 2 = 0 ∨ Go.bits .and .i64 (n.val : Int) 2 = 2) ∧ (Go.bits .and .i64 (n.val : Int) 4 = 0 ∨ Go.bits .and .i64 (n.val : Int) 4 = 4) ∧ (Go.bits .and .i64 (n.val : Int) 8 = 0 ∨ Go.bits .and .i64 (n.val : Int) 8 = 8) ∧ (1 ≤ Go.bits .or .i64 (n.val : Int) 1 ∧ Go.bits .or .i64 (n.val : Int) 1 ≤ 15) ∧ (1 ≤ Go.bits .or .i64 (n.val : Int) 2 ∧ Go.bits .or .i64 (n.val : Int) 2 ≤ 15) ∧ (1 ≤ Go.bits .or .i64 (n.val : Int) 4 ∧ Go.bits .or .i64 (n.val : Int) 4 ≤ 15) ∧ (1 ≤ Go.bits .or .i64 (n.val : Int) 8 ∧ Go.bits .or .i64 (n.val : Int) 8 ≤ 15) := by decide +kernel
theorem skill_of (x s : Int) (hx : 1 ≤ x ∧ x ≤ 15) (hs : s = 1 ∨ s = 2 ∨ s = 4 ∨ s = 8) : (Go.bits .and .i64 x s = 0 ∨ Go.bits .and .i64 x s = s) ∧ 1 ≤ Go.bits .or .i64 x s ∧ Go.bits .or .i64 x s ≤ 15 := by
  have e : (((⟨x.toNat, by omega⟩ : Fin 16).val : Nat) : Int) = x := by show ((x.toNat : Nat) : Int) = x; omega
  obtain ⟨a1, a2, a4, a8, b1, b2, b4, b8⟩ := skill_bits ⟨x.toNat, by omega⟩
  rw [e] at a1 a2 a4 a8 b1 b2 b4 b8
  rcases hs with rfl | rfl | rfl | rfl
  · exact ⟨a1, b1⟩
  · exact ⟨a2, b2⟩
  · exact ⟨a4, b4⟩
  · exact ⟨a8, b8⟩
theorem okWvs_set (t : List WV) (hk : okWvs t = true) (i : Nat) (hi : i < t.length) (s : Int) (hs : 1 ≤ s ∧ s ≤ 15) : okWvs (t.set i ⟨(t.getD i z26).f0, (t.getD i z26).f1, s, (t.getD i z26).f3, (t.getD i z26).f4⟩) = true := by
  obtain ⟨x, hx⟩ : ∃ x, x = t.getD i z26 := ⟨_, rfl⟩
  rw [← hx]
  unfold okWvs at hk ⊢
  rw [Bool.and_eq_true, Bool.and_eq_true, Bool.and_eq_true, decide_eq_true_iff, all_getD z26, asc_iff idWv z26, all_getD z26] at hk ⊢
  obtain ⟨h1, h2, h3, h4⟩ := hk
  have hget : ∀ j, (t.set i ⟨x.f0, x.f1, s, x.f3, x.f4⟩).getD j z26 = if i = j then ⟨x.f0, x.f1, s, x.f3, x.f4⟩ else t.getD j z26 := fun j => by
    rw [getD_set]
    by_cases e : i = j
    · subst e; rw [if_pos ⟨rfl, hi⟩, if_pos rfl]
    · rw [if_neg (fun h => e h.1), if_neg e]
  have hsit : ∀ a, sitN (t.set i ⟨x.f0, x.f1, s, x.f3, x.f4⟩) a = sitN t a := fun a => by
    unfold sitN
    rw [← List.countP_eq_length_filter, ← List.countP_eq_length_filter, List.countP_set hi]
    have e : t[i] = x := by rw [hx, List.getD_eq_getElem?_getD, List.getElem?_eq_getElem hi]; rfl
    rw [e]
    have hle : (if decide (x.f4 = a) = true then 1 else 0) ≤ List.countP (fun y => decide (y.f4 = a)) t := by
      split
      · rename_i h
        exact List.countP_pos_iff.2 ⟨x, by rw [← e]; exact List.getElem_mem hi, h⟩
      · exact Nat.zero_le _
    exact congrArg Int.ofNat (Nat.sub_add_cancel hle)
  rw [List.length_set]
  refine ⟨h1, fun j hj => ?_, fun j hj => ?_, fun j hj => ?_⟩
  · rw [hget]
    by_cases e : i = j
    · subst e
      rw [if_pos rfl]
      have := h2 i hi
      rw [← hx] at this
      unfold okWv at this ⊢
      simp only [Bool.and_eq_true] at this ⊢
      exact ⟨this.1, this.2.1, (rng_iff _ _ _).2 hs, this.2.2.2.1, this.2.2.2.2⟩
    · rw [if_neg e]; exact h2 j hj
  · have := h3 j hj
    rw [hget, hget]
    have e1 : idWv (if i = j then (⟨x.f0, x.f1, s, x.f3, x.f4⟩ : WV) else t.getD j z26) = idWv (t.getD j z26) := by
      split
      · rename_i e; rw [← e, ← hx]; rfl
      · rfl
    have e2 : idWv (if i = j + 1 then (⟨x.f0, x.f1, s, x.f3, x.f4⟩ : WV) else t.getD (j + 1) z26) = idWv (t.getD (j + 1) z26) := by
      split
      · rename_i e; rw [← e, ← hx]; rfl
      · rfl
    rw [e1, e2]
    exact this
  · rw [hget]
    unfold seatOk
    rw [hsit]
    by_cases e : i = j
    · subst e
      rw [if_pos rfl]
      have := h4 i hi
      rw [← hx] at this
      exact this
    · rw [if_neg e]; exact h4 j hj
theorem isSkill_yes (s : Int) (h : s = 1 ∨ s = 2 ∨ s = 4 ∨ s = 8) : impl_isSkill.f s = some true := by
  unfold impl_isSkill.f
  rcases h with rfl | rfl | rfl | rfl <;> rfl
theorem isSkill_no (s : Int) (h : ¬ (s = 1 ∨ s = 2 ∨ s = 4 ∨ s = 8)) : impl_isSkill.f s = some false := by
  unfold impl_isSkill.f
  rw [if_neg (by omega), if_neg (by omega), if_neg (by omega), beq_eq_false_iff_ne.2 (by omega)]
theorem TeachSkill_same (t : List WV) (ht : t.length ≤ 1048576) (t2 : ∀ x ∈ t, x.f1.size ≤ 1048576) (a b s : Int) : ∃ v : List WV × Bool, v.1.length ≤ 1048576 ∧ Ev (fun k => spec_TeachSkill.f k t a b s) v ∧ impl_TeachSkill.f t a b s = some v := by
  obtain ⟨r, hr, hb, hf⟩ := find_ev t a (by omega)
  obtain ⟨q, hq, hb2, hf2⟩ := find_ev t b (by omega)
  have hg := l11Good_ev t (by omega) t2
  unfold spec_TeachSkill.f impl_TeachSkill.f
  rw [findWeaver_eq, findWeaver_eq, Option.bind_some, Option.bind_some, ← hr, ← hq]
  cases hk : okWvs t with
  | false =>
    refine ⟨([], false), by simp, Ev.bind hf (Ev.bind hf2 (Ev.bind hg ?_)), ?_⟩
    · simp only [hk, Bool.false_eq_true, if_false]; exact Ev.now _
    · simp only [Bool.false_eq_true, if_false]; rfl
  | true =>
    simp only [if_true]
    by_cases c1 : r < 0
    · exact ⟨([], false), by simp, Ev.bind hf (Ev.bind hf2 (Ev.bind hg (by simp only [hk, if_true, if_pos c1]; exact Ev.now _))), by simp only [if_pos c1]⟩
    by_cases c2 : q < 0
    · exact ⟨([], false), by simp, Ev.bind hf (Ev.bind hf2 (Ev.bind hg (by simp only [hk, if_true, if_neg c1, if_pos c2]; exact Ev.now _))), by simp only [if_neg c1, if_pos c2]⟩
    by_cases c3 : r = q
    · exact ⟨([], false), by simp, Ev.bind hf (Ev.bind hf2 (Ev.bind hg (by simp only [hk, if_true, if_neg c1, if_neg c2, if_pos c3]; exact Ev.now _))), by simp only [if_neg c1, if_neg c2, if_pos c3]⟩
    by_cases hs : s = 1 ∨ s = 2 ∨ s = 4 ∨ s = 8
    · have r0 : 0 ≤ r := by omega
      have r1 : r < (t.length : Int) := by rcases hb with h | h; omega; exact h.2
      have q0 : 0 ≤ q := by omega
      have q1 : q < (t.length : Int) := by rcases hb2 with h | h; omega; exact h.2
      obtain ⟨_, hx⟩ := okWvs_iff t hk
      have hmr : rd_T26 t r ∈ t := getD_mem z26 t r.toNat (by omega)
      have hmq : rd_T26 t q ∈ t := getD_mem z26 t q.toNat (by omega)
      obtain ⟨sk1, _⟩ := skill_of (rd_T26 t r).f2 s (hx _ hmr).2.1 hs
      obtain ⟨_, sk2⟩ := skill_of (rd_T26 t q).f2 s (hx _ hmq).2.1 hs
      have s0 : s ≠ 0 := by omega
      by_cases cb : Go.bits .and .i64 (rd_T26 t r).f2 s = 0
      · refine ⟨([], false), by simp, Ev.bind hf (Ev.bind hf2 (Ev.bind hg ?_)), ?_⟩
        · rcases hs with rfl | rfl | rfl | rfl
          · simp only [hk, if_true, if_neg c1, if_neg c2, if_neg c3, if_pos r0, if_pos r1, if_pos cb]; exact Ev.now _
          · simp only [hk, if_true, if_neg c1, if_neg c2, if_neg c3, if_neg (show ¬ (2 : Int) = 1 by decide), if_pos r0, if_pos r1, if_pos cb]; exact Ev.now _
          · simp only [hk, if_true, if_neg c1, if_neg c2, if_neg c3, if_neg (show ¬ (4 : Int) = 1 by decide), if_neg (show ¬ (4 : Int) = 2 by decide), if_pos r0, if_pos r1, if_pos cb]; exact Ev.now _
          · simp only [hk, if_true, if_neg c1, if_neg c2, if_neg c3, if_neg (show ¬ (8 : Int) = 1 by decide), if_neg (show ¬ (8 : Int) = 2 by decide), if_neg (show ¬ (8 : Int) = 4 by decide), if_pos r0, if_pos r1, if_pos cb]; exact Ev.now _
        · have e : impl_Weaver_has.f (rd_T26 t r).f0 (rd_T26 t r).f1 (rd_T26 t r).f2 (rd_T26 t r).f3 (rd_T26 t r).f4 s = some false := by
            unfold impl_Weaver_has.f
            rw [cb, beq_eq_false_iff_ne.2 (fun h => s0 h.symm)]
          simp only [if_neg c1, if_neg c2, if_neg c3, isSkill_yes s hs, Option.bind_some, if_true, if_pos r0, if_pos r1, e, Bool.false_eq_true, if_false]
      · have cb2 : Go.bits .and .i64 (rd_T26 t r).f2 s = s := sk1.resolve_left cb
        have hw := with_ev t ht t2 q q0 q1 ⟨(rd_T26 t q).f0, (rd_T26 t q).f1, Go.bits .or .i64 (rd_T26 t q).f2 s, (rd_T26 t q).f3, (rd_T26 t q).f4⟩ (show (rd_T26 t q).f1.size ≤ 1048576 from t2 _ hmq)
        have hok : okWvs (t.set q.toNat ⟨(rd_T26 t q).f0, (rd_T26 t q).f1, Go.bits .or .i64 (rd_T26 t q).f2 s, (rd_T26 t q).f3, (rd_T26 t q).f4⟩) = true := okWvs_set t hk q.toNat (by omega) _ sk2
        rw [if_pos hok] at hw
        dsimp only at hw
        have hc : slices_Clone_wv.f t = some t := by unfold slices_Clone_wv.f; rw [if_pos (by omega)]
        refine ⟨(t.set q.toNat ⟨(rd_T26 t q).f0, (rd_T26 t q).f1, Go.bits .or .i64 (rd_T26 t q).f2 s, (rd_T26 t q).f3, (rd_T26 t q).f4⟩, true), by dsimp only; rw [List.length_set]; exact ht, Ev.bind hf (Ev.bind hf2 (Ev.bind hg ?_)), ?_⟩
        · rcases hs with rfl | rfl | rfl | rfl
          · simp only [hk, if_true, if_neg c1, if_neg c2, if_neg c3, if_pos r0, if_pos r1, if_neg cb, if_pos q0, if_pos q1]; exact Ev.bind hw (Ev.now _)
          · simp only [hk, if_true, if_neg c1, if_neg c2, if_neg c3, if_neg (show ¬ (2 : Int) = 1 by decide), if_pos r0, if_pos r1, if_neg cb, if_pos q0, if_pos q1]; exact Ev.bind hw (Ev.now _)
          · simp only [hk, if_true, if_neg c1, if_neg c2, if_neg c3, if_neg (show ¬ (4 : Int) = 1 by decide), if_neg (show ¬ (4 : Int) = 2 by decide), if_pos r0, if_pos r1, if_neg cb, if_pos q0, if_pos q1]; exact Ev.bind hw (Ev.now _)
          · simp only [hk, if_true, if_neg c1, if_neg c2, if_neg c3, if_neg (show ¬ (8 : Int) = 1 by decide), if_neg (show ¬ (8 : Int) = 2 by decide), if_neg (show ¬ (8 : Int) = 4 by decide), if_pos r0, if_pos r1, if_neg cb, if_pos q0, if_pos q1]; exact Ev.bind hw (Ev.now _)
        · have e : impl_Weaver_has.f (rd_T26 t r).f0 (rd_T26 t r).f1 (rd_T26 t r).f2 (rd_T26 t r).f3 (rd_T26 t r).f4 s = some true := by
            unfold impl_Weaver_has.f
            rw [cb2, beq_self_eq_true]
          simp only [if_neg c1, if_neg c2, if_neg c3, isSkill_yes s hs, Option.bind_some, if_true, if_pos r0, if_pos r1, e, hc, if_pos q0, if_pos q1]
    · refine ⟨([], false), by simp, Ev.bind hf (Ev.bind hf2 (Ev.bind hg ?_)), ?_⟩
      · simp only [hk, if_true, if_neg c1, if_neg c2, if_neg c3, if_neg (show ¬ s = 1 by omega), if_neg (show ¬ s = 2 by omega), if_neg (show ¬ s = 4 by omega), if_neg (show ¬ s = 8 by omega)]
        exact Ev.now _
      · simp only [if_neg c1, if_neg c2, if_neg c3, isSkill_no s hs, Option.bind_some, Bool.false_eq_true, if_false]
theorem markText_l0 (d : Nat) : ∀ (x : Int) (s : ByteArray), 0 ≤ x → x.toNat ≤ d → s.size + x.toNat ≤ 20000000 → ∃ t, Ev (fun k => laws_markText.l0 k x s) t := by
  induction d with
  | zero =>
    intro x s h0 h1 h2
    exact ⟨_, Ev.step (f := fun _ => some _) (fun k => by rw [laws_markText.l0, if_neg (by omega), if_pos (by omega)]) (Ev.now _)⟩
  | succ d ih =>
    intro x s h0 h1 h2
    by_cases c : x > 0
    · have e1 : Int.tdiv x 10 = x / 10 := Int.tdiv_eq_ediv_of_nonneg h0
      have ez : (strOfNums [(wrap64 (48 + (Int.tmod x 10))) % 256]).size = 1 := rfl
      have es : ((strOfNums [(wrap64 (48 + (Int.tmod x 10))) % 256]) ++ s).size = 1 + s.size := by rw [ByteArray.size_append, ez]
      obtain ⟨t, ht⟩ := ih (x / 10) ((strOfNums [(wrap64 (48 + (Int.tmod x 10))) % 256]) ++ s) (by omega) (by omega) (by rw [es]; omega)
      refine ⟨t, Ev.step (fun k => ?_) ht⟩
      rw [laws_markText.l0, if_pos c, Option.bind_some, if_pos (by rw [ez]; omega), e1, wrap_id _ (by omega) (by omega)]
    · exact ⟨_, Ev.step (f := fun _ => some _) (fun k => by rw [laws_markText.l0, if_neg c, if_pos (by omega)]) (Ev.now _)⟩
theorem markText_ev (x : Int) (h : x ≤ 10000000) : ∃ t, Ev (fun k => laws_markText.f k x) t := by
  unfold laws_markText.f
  by_cases c : x ≤ 0
  · exact ⟨_, by simp only [if_pos c]; exact Ev.now _⟩
  · simp only [if_neg c]
    exact markText_l0 x.toNat x _ (by omega) (by omega) (by show 0 + x.toNat ≤ 20000000; omega)
theorem markWv_ev (l : List WV) (hl : l.length ≤ 1048576) : ∃ (m : Int) (t : List WV), 0 ≤ m ∧ Ev (fun k => laws_markWeaverS.f k l 1) (m, t) := by
  unfold laws_markWeaverS.f
  obtain ⟨⟨m, t⟩, hm, h⟩ := Ev.loopE (fun k i (q : Int × List WV) => laws_markWeaverS.l0 k q.2 q.1 i) l.length
    (fun i q => q.1 = 1 + 5 * (i : Int) ∧ q.2.length = l.length) (fun r => 0 ≤ r.1)
    (fun s hs => ⟨s, by omega, Ev.step (f := fun _ => some s) (fun k => by rw [laws_markWeaverS.l0, if_neg (by omega)]) (Ev.now s)⟩)
    (fun i s hi hs => by
      obtain ⟨h1, h2⟩ := hs
      obtain ⟨u, hu⟩ := markText_ev (s.1 + 1) (by omega)
      refine ⟨(s.1 + 5, _), ⟨by simp only; omega, ?_⟩, fun r h => Ev.step (fun k => by
        rw [laws_markWeaverS.l0, if_pos (by omega), if_pos (by omega), Option.bind_some, wrap_id (s.1 + 1) (by omega) (by omega)]) (Ev.bind hu (by
          simp only [Option.bind_some]
          rw [wrap_id (s.1 + 1 + 1) (by omega) (by omega), wrap_id (s.1 + 1 + 1 + 1) (by omega) (by omega), wrap_id (s.1 + 1 + 1 + 1 + 1) (by omega) (by omega), wrap_id (s.1 + 1 + 1 + 1 + 1 + 1) (by omega) (by omega), wrap_id ((i : Int) + 1) (by omega) (by omega), show s.1 + 1 + 1 + 1 + 1 + 1 = s.1 + 5 by omega]
          exact h))⟩
      simp [h2]) (1, l) ⟨by simp, rfl⟩
  exact ⟨m, t, hm, h⟩
theorem markText_all : ∃ f : Int → ByteArray, ∀ x, x ≤ 10000000 → Ev (fun k => laws_markText.f k x) (f x) :=
  ⟨fun x => if h : x ≤ 10000000 then Classical.choose (markText_ev x h) else ⟨#[]⟩, fun x h => by
    have := Classical.choose_spec (markText_ev x h)
    simpa only [dif_pos h] using this⟩
theorem rd_set26 (l : List WV) (i : Nat) (hi : i < l.length) (v : WV) : rd_T26 (l.set i v) (i : Int) = v := by
  show (l.set i v).getD ((i : Int)).toNat z26 = v
  rw [Int.toNat_natCast, getD_set, if_pos ⟨rfl, hi⟩]
theorem markHeldWv_ev (l : List WV) (hl : l.length ≤ 1048576) : ∃ t : List WV, Ev (fun k => laws_markWeaverS.f k l 1) (1 + 5 * (l.length : Int), t) ∧ Ev (fun k => laws_heldWeaverS.f k t 1) (1 + 5 * (l.length : Int)) := by
  obtain ⟨f, hf⟩ := markText_all
  unfold laws_markWeaverS.f
  obtain ⟨⟨m, t⟩, ⟨hm, htl, htj⟩, h⟩ := Ev.loopE (fun k i (q : Int × List WV) => laws_markWeaverS.l0 k q.2 q.1 i) l.length
    (fun i q => q.1 = 1 + 5 * (i : Int) ∧ q.2.length = l.length ∧ ∀ j : Nat, j < i → q.2.getD j z26 = ⟨1 + 5 * (j : Int), f (2 + 5 * (j : Int)), 3 + 5 * (j : Int), 4 + 5 * (j : Int), 5 + 5 * (j : Int)⟩)
    (fun r => r.1 = 1 + 5 * (l.length : Int) ∧ r.2.length = l.length ∧ ∀ j : Nat, j < l.length → r.2.getD j z26 = ⟨1 + 5 * (j : Int), f (2 + 5 * (j : Int)), 3 + 5 * (j : Int), 4 + 5 * (j : Int), 5 + 5 * (j : Int)⟩)
    (fun s hs => ⟨s, hs, Ev.step (f := fun _ => some s) (fun k => by rw [laws_markWeaverS.l0, if_neg (by omega)]) (Ev.now s)⟩)
    (fun i s hi hs => by
      obtain ⟨h1, h2, h3⟩ := hs
      have hu := hf (s.1 + 1) (by omega)
      refine ⟨(s.1 + 5, s.2.set i ⟨s.1, f (s.1 + 1), s.1 + 2, s.1 + 3, s.1 + 4⟩), ⟨by simp only; omega, by simp [h2], fun j hj => ?_⟩, fun r h => Ev.step (fun k => by
        rw [laws_markWeaverS.l0, if_pos (by omega), if_pos (by omega), Option.bind_some, wrap_id (s.1 + 1) (by omega) (by omega)]) (Ev.bind hu ?_)⟩
      · simp only [getD_set]
        by_cases e : i = j
        · subst e
          rw [if_pos ⟨rfl, by omega⟩, h1, show 1 + 5 * (i : Int) + 1 = 2 + 5 * (i : Int) by omega, show 1 + 5 * (i : Int) + 2 = 3 + 5 * (i : Int) by omega, show 1 + 5 * (i : Int) + 3 = 4 + 5 * (i : Int) by omega, show 1 + 5 * (i : Int) + 4 = 5 + 5 * (i : Int) by omega]
        · rw [if_neg (fun h => e h.1)]
          exact h3 j (by omega)
      · simp only [Option.bind_some, Int.toNat_natCast]
        rw [wrap_id (s.1 + 1 + 1) (by omega) (by omega), wrap_id (s.1 + 1 + 1 + 1) (by omega) (by omega), wrap_id (s.1 + 1 + 1 + 1 + 1) (by omega) (by omega), wrap_id (s.1 + 1 + 1 + 1 + 1 + 1) (by omega) (by omega), wrap_id ((i : Int) + 1) (by omega) (by omega), show s.1 + 1 + 1 + 1 + 1 + 1 = s.1 + 5 by omega, show s.1 + 1 + 1 + 1 + 1 = s.1 + 4 by omega, show s.1 + 1 + 1 + 1 = s.1 + 3 by omega, show s.1 + 1 + 1 = s.1 + 2 by omega]
        have hi2 : i < s.2.length := by omega
        simp only [List.set_set, rd_set26 _ i hi2]
        exact h) (1, l) ⟨by simp, rfl, fun j hj => absurd hj (by omega)⟩
  simp only at hm htl htj
  subst hm
  refine ⟨t, h, ?_⟩
  unfold laws_heldWeaverS.f
  obtain ⟨r, hr, h2⟩ := Ev.loopE (fun k i (q : Int) => laws_heldWeaverS.l0 k t q i) t.length (fun i q => q = 1 + 5 * (i : Int)) (fun r => r = 1 + 5 * (l.length : Int))
    (fun s hs => ⟨s, by rw [hs, htl], Ev.step (f := fun _ => some s) (fun k => by rw [laws_heldWeaverS.l0, if_neg (by omega)]) (Ev.now s)⟩)
    (fun i s hi hs => by
      have e0 : rd_T26 t (i : Int) = ⟨1 + 5 * (i : Int), f (2 + 5 * (i : Int)), 3 + 5 * (i : Int), 4 + 5 * (i : Int), 5 + 5 * (i : Int)⟩ := htj i (by omega)
      have hu := hf (2 + 5 * (i : Int)) (by omega)
      refine ⟨s + 5, by omega, fun r h => Ev.step (f := fun k => (laws_markText.f k (2 + 5 * (i : Int))).bind _) (fun k => by
        rw [laws_heldWeaverS.l0, if_pos (by omega), if_pos (by omega), e0]
        simp only
        rw [if_pos hs.symm, wrap_id (s + 1) (by omega) (by omega), show s + 1 = 2 + 5 * (i : Int) by omega]) (Ev.bind hu ?_)⟩
      rw [wrap_id (2 + 5 * (i : Int) + 1) (by omega) (by omega), wrap_id (2 + 5 * (i : Int) + 1 + 1) (by omega) (by omega), wrap_id (2 + 5 * (i : Int) + 1 + 1 + 1) (by omega) (by omega), wrap_id (2 + 5 * (i : Int) + 1 + 1 + 1 + 1) (by omega) (by omega), wrap_id ((i : Int) + 1) (by omega) (by omega)]
      simp only [if_true, if_pos (show 3 + 5 * (i : Int) = 2 + 5 * (i : Int) + 1 by omega), if_pos (show 4 + 5 * (i : Int) = 2 + 5 * (i : Int) + 1 + 1 by omega), if_pos (show 5 + 5 * (i : Int) = 2 + 5 * (i : Int) + 1 + 1 + 1 by omega)]
      rw [show 2 + 5 * (i : Int) + 1 + 1 + 1 + 1 = s + 5 by omega]
      exact h) 1 (by simp)
  subst hr
  exact h2
theorem FnExactTeachSkill (l0 : List (S23)) (a1 : Int) (a2 : Int) (a3 : Int) (q_l0 : (l0.length ≤ maxLen ∧ ∀ q ∈ l0, ((Lit.int .i64 q.f0).wf = true ∧ q.f1.size ≤ maxLen ∧ (Lit.int .i64 q.f2).wf = true ∧ (Lit.int .i64 q.f3).wf = true ∧ (Lit.int .i64 q.f4).wf = true))) (q_a1 : (Lit.int .i64 a1).wf = true) (q_a2 : (Lit.int .i64 a2).wf = true) (q_a3 : (Lit.int .i64 a3).wf = true) : ∃ k, laws_FnExactTeachSkill.f k l0 a1 a2 a3 = some true := by
  obtain ⟨r, hr, K1, h1⟩ := szWv_ev l0 q_l0.1 (fun q hq => (q_l0.2 q hq).2.1)
  by_cases h0 : r < 0
  · refine ⟨K1, ?_⟩
    have h1 := h1 K1 (Nat.le_refl _)
    dsimp only at h1
    unfold laws_FnExactTeachSkill.f
    rw [h1, Option.bind_some, if_pos h0]
  · obtain ⟨z1, z2⟩ := hr (by omega)
    obtain ⟨t, ⟨t1, t2⟩, K2, h2⟩ := toWv_ev l0 z1 z2
    obtain ⟨v, hv, ⟨K3, h3⟩, h5⟩ := TeachSkill_same t (by omega) t2 a1 a2 a3
    obtain ⟨K4, h4⟩ := eqWv_ev t (by omega)
    obtain ⟨m, t', hm, K6, h6⟩ := markWv_ev t (by omega)
    obtain ⟨K7, h7⟩ := eqWv_ev v.1 (by omega)
    obtain ⟨g', ⟨K8, h8⟩, K9, h9⟩ := markHeldWv_ev v.1 (by omega)
    obtain ⟨N, hN⟩ : ∃ N, N = K1 + K2 + K3 + K4 + K6 + K7 + K8 + K9 := ⟨_, rfl⟩
    replace h1 := fun j => h1 (N + j) (by omega)
    replace h2 := fun j => h2 (N + j) (by omega)
    replace h3 := fun j => h3 (N + j) (by omega)
    replace h4 := fun j => h4 (N + j) (by omega)
    replace h6 := fun j => h6 (N + j) (by omega)
    replace h7 := fun j => h7 (N + j) (by omega)
    replace h8 := fun j => h8 (N + j) (by omega)
    replace h9 := fun j => h9 (N + j) (by omega)
    dsimp only at h1 h2 h3 h4 h6 h7 h8 h9
    refine ⟨N + 4, ?_⟩
    have n1 : ¬ m < 0 := by omega
    have n2 : ¬ 1 + 5 * (v.1.length : Int) < 0 := by omega
    unfold laws_FnExactTeachSkill.f
    simp only [h1, h2, h3, h4, h5, h6, h7, h8, h9, h0, n1, n2, laws_FnExactTeachSkill.j0, laws_FnExactTeachSkill.j1, laws_FnExactTeachSkill.j2, Option.bind_some, if_false, if_true, bne_self_eq_false, Bool.false_eq_true]
end Go.Proofs.YthalifhbjioaeaaDoor.Pure
