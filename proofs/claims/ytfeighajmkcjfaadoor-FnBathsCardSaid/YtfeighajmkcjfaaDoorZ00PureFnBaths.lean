/- The plain law of FnBaths: what the program's functions compute is what the reference's compute. No program and no memory in it. -/
import Derived.Test.YtfeighajmkcjfaaDoorZ00Hx8
import Derived.Test.YtfeighajmkcjfaaDoorZ00Lps
namespace Go.Proofs.YtfeighajmkcjfaaDoor.Pure
open Go.RowKit Go.Proofs.YtfeighajmkcjfaaDoorW.PrintWords Go.Proofs.YtfeighajmkcjfaaDoorW.PrintLast Go.Proofs.YtfeighajmkcjfaaDoor.H
set_option linter.unusedVariables false
set_option linter.unusedSimpArgs false
theorem l1In_eq (a b c : Int) : spec_l1In.f a b c = some (rng a b c) := spec_l1In.eq a b c
theorem in_eq (a b c : Int) : impl_in.f a b c = some (rng a b c) := impl_in.eq a b c
theorem word_at (s : ByteArray) (i : Nat) (hi : i < s.size) : bt s (i : Int) = (((s.data.toList)[i]'(by simpa using hi)).toNat : Int) := by
  unfold bt
  rw [dif_pos (by simpa using hi)]
  rfl
theorem l2Word_ev (s : ByteArray) (hs : s.size ≤ 2000000) : Ev (fun k => spec_l2Word.f k s) (isWordB s) := by
  unfold spec_l2Word.f
  have e : isWordB s = ((List.range s.size).all (fun i => decide (97 ≤ bt s (i : Int)) && decide (bt s (i : Int) ≤ 122)) && rng (s.size : Int) 1 10) := by
    unfold isWordB
    rw [Bool.and_comm]
    congr 1
    rw [Bool.eq_iff_iff, all_range, List.all_eq_true]
    constructor
    · intro h i hi
      have := h _ (List.getElem_mem (by simpa using hi : i < s.data.toList.length))
      rw [word_at s i hi]
      rw [Bool.and_eq_true, decide_eq_true_iff, decide_eq_true_iff] at this ⊢
      omega
    · intro h b hb
      obtain ⟨i, hi, rfl⟩ := List.getElem_of_mem hb
      have hi' : i < s.size := by simpa using hi
      have := h i hi'
      rw [word_at s i hi'] at this
      rw [Bool.and_eq_true, decide_eq_true_iff, decide_eq_true_iff] at this ⊢
      omega
  rw [e]
  refine Ev.scan (fun k i => spec_l2Word.l0 k s i) s.size _ _ (Ev.step (f := fun _ => some _) (fun k => ?_) (Ev.now _)) ?_ ?_
  · rw [spec_l2Word.l0, if_neg (by omega), l1In_eq]
    rfl
  · intro i hi hg
    refine Ev.step (f := fun _ => some false) (fun k => ?_) (Ev.now _)
    rw [spec_l2Word.l0, if_pos (by omega), if_pos (by omega)]
    by_cases c : bt s (i : Int) < 97
    · rw [if_pos c]
    · rw [if_neg c, if_pos]
      rw [Bool.and_eq_false_iff, decide_eq_false_iff_not, decide_eq_false_iff_not] at hg
      omega
  · intro i r hi hg hr
    refine Ev.step (fun k => ?_) hr
    rw [Bool.and_eq_true, decide_eq_true_iff, decide_eq_true_iff] at hg
    rw [spec_l2Word.l0, if_pos (by omega), if_pos (by omega), if_neg (by omega), if_neg (by omega), wrap_id _ (by omega) (by omega)]
theorem ext_getD {α : Type} (z : α) (a b : List α) (hl : a.length = b.length) (h : ∀ j, j < a.length → a.getD j z = b.getD j z) : a = b := by
  apply List.ext_getElem hl
  intro j h1 h2
  have := h j h1
  rwa [List.getD_eq_getElem?_getD, List.getD_eq_getElem?_getD, List.getElem?_eq_getElem h1, List.getElem?_eq_getElem h2] at this
theorem take_succ_getD {α : Type} (z : α) (a : List α) (i : Nat) (h : i < a.length) : a.take (i + 1) = a.take i ++ [a.getD i z] := by
  rw [List.take_succ_eq_append_getElem h, List.getD_eq_getElem?_getD, List.getElem?_eq_getElem h]
  rfl
theorem getD_map' {α β : Type} (f : α → β) (z : α) (y : β) (a : List α) (i : Nat) (h : i < a.length) : (a.map f).getD i y = f (a.getD i z) := by
  rw [List.getD_eq_getElem?_getD, List.getElem?_map, List.getD_eq_getElem?_getD, List.getElem?_eq_getElem h]
  rfl
theorem bl_irr : ∀ x : List UInt8, Op.bytesLess x x = false
  | [] => rfl
  | a :: x => by
    rw [Op.bytesLess, bl_irr x, Bool.and_false, Bool.or_false]
    exact decide_eq_false (by rw [UInt8.lt_iff_toNat_lt]; omega)
theorem bl_trans : ∀ x y z : List UInt8, Op.bytesLess x y = true → Op.bytesLess y z = true → Op.bytesLess x z = true
  | _, y, [], _, h2 => by cases y <;> cases h2
  | [], _, _ :: _, _, _ => rfl
  | a :: x, [], c :: z, h1, _ => by cases h1
  | a :: x, b :: y, c :: z, h1, h2 => by
    simp only [Op.bytesLess, Bool.or_eq_true, Bool.and_eq_true, decide_eq_true_eq, beq_iff_eq, UInt8.lt_iff_toNat_lt] at h1 h2 ⊢
    rcases h1 with h1 | ⟨rfl, h1⟩
    · rcases h2 with h2 | ⟨rfl, h2⟩
      · exact .inl (by omega)
      · exact .inl h1
    · rcases h2 with h2 | ⟨rfl, h2⟩
      · exact .inl h2
      · exact .inr ⟨rfl, bl_trans x y z h1 h2⟩
theorem getD_mem {α : Type} (z : α) (l : List α) (i : Nat) (hi : i < l.length) : l.getD i z ∈ l := by
  rw [List.getD_eq_getElem?_getD, List.getElem?_eq_getElem hi]
  exact List.getElem_mem hi
abbrev DPt := S43
theorem okPart_eq (x : DPt) : okPart x = (isWordB x.f0 && rng x.f1 1 1000) := by
  unfold okPart impl_IsRecipe_1.f impl_isWord.f
  simp only [in_eq, Option.bind_some]
  cases isWordB x.f0 <;> rfl
def lessT (l : List DPt) (i : Nat) : Bool := Op.bytesLess (l.getD i z43).f0.toList (l.getD (i + 1) z43).f0.toList
def rcp (l : List DPt) : Bool := rng (l.length : Int) 1 6 && (l.all okPart && (List.range (l.length - 1)).all (lessT l))
theorem IsRecipe_ev (l : List DPt) (hl : l.length ≤ 1000) : Ev (fun k => impl_IsRecipe.f k l) (rcp l) := by
  unfold impl_IsRecipe.f rcp
  simp only [in_eq, Option.bind_some, areAll_IsRecipe_1.f]
  have hj : Ev (fun k => impl_IsRecipe.j0 k l true) false := Ev.step (f := fun _ => some false) (fun k => by rw [impl_IsRecipe.j0, if_pos rfl]) (Ev.now _)
  cases h1 : rng (l.length : Int) 1 6 with
  | false => simp only [Bool.false_eq_true, if_false, Bool.false_and]; exact hj
  | true =>
    simp only [if_true, Bool.true_and]
    cases h2 : l.all okPart with
    | false => simp only [Bool.not_false, Bool.false_and]; exact hj
    | true =>
      simp only [Bool.not_true, Bool.true_and]
      refine Ev.step (fun k => by rw [impl_IsRecipe.j0, if_neg Bool.false_ne_true]) ?_
      have hlen : 1 ≤ l.length := by have := (rng_iff _ _ _).1 h1; omega
      have e0 : ∀ i : Nat, rd_T43 l ((i : Int) + 1 - 1) = l.getD i z43 := fun i => by
        show l.getD ((i : Int) + 1 - 1).toNat _ = _
        rw [show ((i : Int) + 1 - 1).toNat = i by omega]
      have e1 : ∀ i : Nat, rd_T43 l ((i : Int) + 1) = l.getD (i + 1) z43 := fun i => by
        show l.getD ((i : Int) + 1).toNat _ = _
        rw [show ((i : Int) + 1).toNat = i + 1 by omega]
      have G := Ev.scan (fun k i => impl_IsRecipe.l0 k l (i + 1)) (l.length - 1) (lessT l) true
        (Ev.step (f := fun _ => some true) (fun k => by rw [impl_IsRecipe.l0, if_neg (by omega)]) (Ev.now _))
        (fun i hi hg => Ev.step (f := fun _ => some false) (fun k => by
          have hg' : Op.bytesLess (l.getD i z43).f0.toList (l.getD (i + 1) z43).f0.toList = false := hg
          rw [impl_IsRecipe.l0, wrap_id ((i : Int) + 1 - 1) (by omega) (by omega), if_pos (by omega), if_pos (by omega), if_pos (by omega), if_pos (by omega), e0, e1, hg', if_neg Bool.false_ne_true]) (Ev.now _))
        (fun i r hi hg hr => Ev.step (fun k => by
          have hg' : Op.bytesLess (l.getD i z43).f0.toList (l.getD (i + 1) z43).f0.toList = true := hg
          rw [impl_IsRecipe.l0, wrap_id ((i : Int) + 1 - 1) (by omega) (by omega), if_pos (by omega), if_pos (by omega), if_pos (by omega), if_pos (by omega), e0, e1, hg', if_pos rfl, wrap_id ((i : Int) + 1 + 1) (by omega) (by omega)]) hr)
      rw [Bool.and_true] at G
      exact G
theorem l7Good_ev (l : List DPt) (hl : l.length ≤ 1000) (hz : ∀ x ∈ l, x.f0.size ≤ 1000) : Ev (fun k => spec_l7Good.f k l) (rcp l) := by
  unfold spec_l7Good.f
  have e : rcp l = ((List.range l.length).all (fun i => okPart (l.getD i z43) && (decide (i = 0) || lessT l (i - 1))) && rng (l.length : Int) 1 6) := by
    unfold rcp
    rw [Bool.and_comm]
    congr 1
    rw [Bool.eq_iff_iff, all_range, Bool.and_eq_true, all_getD z43, all_range]
    constructor
    · rintro ⟨h1, h2⟩ i hi
      rw [Bool.and_eq_true, Bool.or_eq_true, decide_eq_true_iff]
      refine ⟨h1 i hi, ?_⟩
      by_cases e : i = 0
      · exact .inl e
      · exact .inr (h2 (i - 1) (by omega))
    · intro h
      refine ⟨fun i hi => ?_, fun i hi => ?_⟩
      · have := h i hi
        rw [Bool.and_eq_true] at this
        exact this.1
      · have := h (i + 1) (by omega)
        rw [Bool.and_eq_true, Bool.or_eq_true, decide_eq_true_iff] at this
        rcases this.2 with h | h
        · omega
        · rwa [Nat.add_sub_cancel] at h
  have round : ∀ (i : Nat) (r : Bool), i < l.length → ((okPart (l.getD i z43) && (decide (i = 0) || lessT l (i - 1))) = true → Ev (fun k => spec_l7Good.l0 k l ((i : Int) + 1)) r) → ((okPart (l.getD i z43) && (decide (i = 0) || lessT l (i - 1))) = false → r = false) → Ev (fun k => spec_l7Good.l0 k l (i : Int)) r := by
    intro i r hi ht hf
    have h1 := l2Word_ev (l.getD i z43).f0 (by have := hz _ (getD_mem z43 l i hi); omega)
    have e0 : rd_T43 l (i : Int) = l.getD i z43 := rfl
    have w1 : wrap64 ((i : Int) - 1) = (i : Int) - 1 := wrap_id _ (by omega) (by omega)
    have w2 : wrap64 ((i : Int) + 1) = (i : Int) + 1 := wrap_id _ (by omega) (by omega)
    rw [okPart_eq] at ht hf
    refine Ev.step (fun k => by rw [spec_l7Good.l0, if_pos (by omega), if_pos (by omega), e0, w1, w2]) (Ev.bind h1 ?_)
    cases ho : isWordB (l.getD i z43).f0 with
    | false =>
      rw [hf (by rw [ho]; rfl)]
      simp only [Bool.false_eq_true, if_false]
      exact Ev.now _
    | true =>
      simp only [if_true, l1In_eq, Option.bind_some]
      cases hp : rng (l.getD i z43).f1 1 1000 with
      | false =>
        rw [hf (by rw [ho, hp]; rfl)]
        simp only [Bool.false_eq_true, if_false]
        exact Ev.now _
      | true =>
        simp only [if_true]
        by_cases c : i = 0
        · simp only [if_neg (show ¬ (i : Int) > 0 by omega)]
          exact ht (by rw [ho, hp, decide_eq_true c]; rfl)
        · have hd : lessT l (i - 1) = Op.bytesLess (rd_T43 l ((i : Int) - 1)).f0.toList (l.getD i z43).f0.toList := by
            unfold lessT
            rw [show i - 1 + 1 = i by omega]
            show _ = Op.bytesLess (l.getD ((i : Int) - 1).toNat _).f0.toList _
            rw [show ((i : Int) - 1).toNat = i - 1 by omega]
          simp only [if_pos (show (i : Int) > 0 by omega), if_pos (show 0 ≤ (i : Int) - 1 by omega), if_pos (show (i : Int) - 1 < (l.length : Int) by omega), ← hd]
          cases hq : lessT l (i - 1) with
          | false =>
            rw [hf (by rw [ho, hp, hq, decide_eq_false c]; rfl)]
            simp only [Bool.false_eq_true, if_false]
            exact Ev.now _
          | true =>
            simp only [if_true]
            exact ht (by rw [ho, hp, hq]; simp)
  rw [e]
  refine Ev.scan (fun k i => spec_l7Good.l0 k l i) l.length _ _ (Ev.step (f := fun _ => some _) (fun k => ?_) (Ev.now _)) ?_ ?_
  · rw [spec_l7Good.l0, if_neg (by omega), l1In_eq]
    rfl
  · intro i hi hg
    exact round i false hi (fun h => by rw [hg] at h; cases h) (fun _ => rfl)
  · intro i r hi hg hr
    exact round i r hi (fun _ => hr) (fun h => by rw [hg] at h; cases h)
def okBath (l : List DPt) (a b c : Int) (s : List Int) : Bool := rcp l && (rng a 1 500 && (rng b 0 100 && (rng c 0 50000 && (((s.length : Int) == (l.length : Int)) && s.all fun x => rng x 0 50000))))
theorem IsBath_ev (l : List DPt) (a b c : Int) (s : List Int) (hl : l.length ≤ 1000) : Ev (fun k => impl_IsBath.f k l a b c s) (okBath l a b c s) := by
  unfold impl_IsBath.f okBath
  refine Ev.bind (IsRecipe_ev l hl) ?_
  simp only [in_eq, Option.bind_some, impl_isGrams.f, areAll_impl_isGrams.f]
  cases rcp l <;> cases rng a 1 500 <;> cases rng b 0 100 <;> cases rng c 0 50000 <;> try exact Ev.now _
  simp only [if_true, Bool.true_and]
  by_cases e : (s.length : Int) = (l.length : Int)
  · simp only [if_pos e]
    rw [show ((s.length : Int) == (l.length : Int)) = true from beq_iff_eq.2 e, Bool.true_and]
    exact Ev.now _
  · simp only [if_neg e]
    rw [show ((s.length : Int) == (l.length : Int)) = false from beq_eq_false_iff_ne.2 e, Bool.false_and]
    exact Ev.now _
theorem l7Bath_ev (l : List DPt) (a b c : Int) (s : List Int) (hl : l.length ≤ 1000) (hz : ∀ x ∈ l, x.f0.size ≤ 1000) (hs : s.length ≤ 1000) : Ev (fun k => spec_l7Bath.f k l a b c s) (okBath l a b c s) := by
  unfold spec_l7Bath.f
  have e : okBath l a b c s = ((List.range s.length).all (fun i => rng (s.getD i 0) 0 50000) && (rcp l && (rng a 1 500 && (rng b 0 100 && (rng c 0 50000 && ((s.length : Int) == (l.length : Int))))))) := by
    unfold okBath
    have h : (s.all fun x => rng x 0 50000) = (List.range s.length).all (fun i => rng (s.getD i 0) 0 50000) := by rw [Bool.eq_iff_iff, all_range, all_getD 0]
    rw [h]
    ac_rfl
  rw [e]
  refine Ev.scan (fun k i => spec_l7Bath.l0 k l i a b c s) s.length _ _ ?_ ?_ ?_
  · refine Ev.step (fun k => by rw [spec_l7Bath.l0, if_neg (by omega)]) (Ev.bind (l7Good_ev l hl hz) ?_)
    simp only [l1In_eq, Option.bind_some, spec_l7Grams.f]
    cases rcp l <;> cases rng a 1 500 <;> cases rng b 0 100 <;> cases rng c 0 50000 <;> exact Ev.now _
  · intro i hi hg
    refine Ev.step (f := fun _ => some false) (fun k => ?_) (Ev.now _)
    rw [spec_l7Bath.l0, if_pos (by omega), if_pos (by omega)]
    unfold spec_l7Grams.f
    rw [l1In_eq, Option.bind_some, show rng (rd s (i : Int)) 0 50000 = false from hg]
    rfl
  · intro i r hi hg hr
    refine Ev.step (fun k => ?_) hr
    rw [spec_l7Bath.l0, if_pos (by omega), if_pos (by omega)]
    unfold spec_l7Grams.f
    rw [l1In_eq, Option.bind_some, show rng (rd s (i : Int)) 0 50000 = true from hg, Option.bind_some, if_pos rfl, wrap_id ((i : Int) + 1) (by omega) (by omega)]
theorem okBath_iff (l : List DPt) (a b c : Int) (s : List Int) (h : okBath l a b c s = true) : rcp l = true ∧ (1 ≤ a ∧ a ≤ 500) ∧ (0 ≤ b ∧ b ≤ 100) ∧ (0 ≤ c ∧ c ≤ 50000) ∧ s.length = l.length ∧ (∀ i, i < l.length → 0 ≤ s.getD i 0 ∧ s.getD i 0 ≤ 50000) := by
  unfold okBath at h
  simp only [Bool.and_eq_true, rng_iff, beq_iff_eq] at h
  obtain ⟨h1, h2, h3, h4, h5, h6⟩ := h
  refine ⟨h1, h2, h3, h4, by omega, fun i hi => ?_⟩
  exact (rng_iff _ _ _).1 ((all_getD 0 s _).1 h6 i (by omega))
theorem rcp_iff (l : List DPt) (h : rcp l = true) : (1 ≤ l.length ∧ l.length ≤ 6) ∧ (∀ x ∈ l, 1 ≤ x.f1 ∧ x.f1 ≤ 1000) ∧ ∀ i, i + 1 < l.length → lessT l i = true := by
  unfold rcp at h
  rw [Bool.and_eq_true, Bool.and_eq_true, rng_iff, all_range] at h
  refine ⟨by omega, fun x hx => ?_, fun i hi => h.2.2 i (by omega)⟩
  have := List.all_eq_true.1 h.2.1 x hx
  rw [okPart_eq, Bool.and_eq_true, rng_iff] at this
  exact this.2
theorem rcp_uniq (l : List DPt) (h : rcp l = true) : ∀ d i : Nat, i + d + 1 < l.length → Op.bytesLess (l.getD i z43).f0.toList (l.getD (i + d + 1) z43).f0.toList = true := by
  have h3 := (rcp_iff l h).2.2
  intro d
  induction d with
  | zero => intro i hi; exact h3 i hi
  | succ d ih =>
    intro i hi
    exact bl_trans _ _ _ (ih i (by omega)) (h3 (i + d + 1) (by omega))
theorem rcp_ne (l : List DPt) (h : rcp l = true) (i j : Nat) (hi : i < l.length) (hj : j < l.length) (e : (l.getD i z43).f0.toList = (l.getD j z43).f0.toList) : i = j := by
  rcases Nat.lt_trichotomy i j with c | c | c
  · have := rcp_uniq l h (j - i - 1) i (by omega)
    rw [show i + (j - i - 1) + 1 = j by omega, e, bl_irr] at this
    cases this
  · exact c
  · have := rcp_uniq l h (i - j - 1) j (by omega)
    rw [show j + (i - j - 1) + 1 = i by omega, e, bl_irr] at this
    cases this
theorem mulB (p y : Int) (hp : 1 ≤ p ∧ p ≤ 1000) (hy : 0 ≤ y ∧ y ≤ 100000) : 0 ≤ p * y ∧ p * y ≤ 100000000 :=
  ⟨Int.mul_nonneg (by omega) hy.1, Int.le_trans (Int.mul_le_mul hp.2 hy.2 hy.1 (by omega)) (by omega)⟩
def nd1 (x : DPt) (y : Int) : Int := Int.tdiv (x.f1 * y + 999) 1000
def ndl (l : List DPt) (y : Int) : List Int := l.map fun x => nd1 x y
theorem ndl_take (l : List DPt) (y : Int) (i : Nat) (hi : i < l.length) : (l.take (i + 1)).map (fun x => nd1 x y) = (l.take i).map (fun x => nd1 x y) ++ [nd1 (l.getD i z43) y] := by
  rw [take_succ_getD z43 l i hi, List.map_append]
  rfl
theorem ndl_getD (l : List DPt) (y : Int) (i : Nat) (hi : i < l.length) : (ndl l y).getD i 0 = nd1 (l.getD i z43) y := getD_map' (fun x => nd1 x y) _ _ l i hi
theorem needs_ev (l : List DPt) (y : Int) (hl : l.length ≤ 1000) (hp : ∀ x ∈ l, 1 ≤ x.f1 ∧ x.f1 ≤ 1000) (hy : 0 ≤ y ∧ y ≤ 100000) : Ev (fun k => impl_needs.f k l y) (ndl l y) := by
  unfold impl_needs.f
  obtain ⟨r, hr, h⟩ := Ev.loopE (fun k i (s : List Int) => impl_needs.l0 k y s l (l.length : Int) i) l.length (fun i s => s = (l.take i).map (fun x => nd1 x y)) (fun r => r = ndl l y)
    (fun s hs => ⟨s, by rw [hs, List.take_length]; rfl, Ev.step (f := fun _ => some s) (fun k => by rw [impl_needs.l0, if_neg (by omega)]) (Ev.now _)⟩)
    (fun i s hi hs => by
      have hm := mulB _ y (hp _ (getD_mem z43 l i hi)) hy
      have e0 : rd_T43 l (i : Int) = l.getD i z43 := rfl
      have hle : s.length ≤ l.length := by rw [hs, List.length_map]; exact List.length_take_le' i l
      refine ⟨s ++ [nd1 (l.getD i z43) y], by rw [hs, ndl_take l y i hi], fun r h => Ev.step (fun k => ?_) h⟩
      rw [impl_needs.l0, if_pos (by omega), if_pos (by omega), if_pos (by omega), e0]
      unfold impl_ceilDiv.f nd1
      obtain ⟨q, hq⟩ : ∃ q, q = (l.getD i z43).f1 * y := ⟨_, rfl⟩
      rw [← hq] at hm ⊢
      rw [if_neg (by omega), Option.bind_some, if_pos (by omega), wrap_id q (by omega) (by omega), wrap_id (q + 1000) (by omega) (by omega), wrap_id (q + 1000 - 1) (by omega) (by omega), show q + 1000 - 1 = q + 999 by omega, Int.tdiv_eq_ediv_of_nonneg (by omega), wrap_id ((q + 999) / 1000) (by omega) (by omega), wrap_id ((i : Int) + 1) (by omega) (by omega)]) [] rfl
  subst hr
  exact h
theorem l7Needs_ev (l : List DPt) (y : Int) (hl : l.length ≤ 1000) (hp : ∀ x ∈ l, 1 ≤ x.f1 ∧ x.f1 ≤ 1000) (hy : 0 ≤ y ∧ y ≤ 100000) : Ev (fun k => spec_l7Needs.f k l y) (ndl l y) := by
  unfold spec_l7Needs.f
  obtain ⟨r, hr, h⟩ := Ev.loopE (fun k i (s : List Int) => spec_l7Needs.l0 k l y s i) l.length (fun i s => s = (l.take i).map (fun x => nd1 x y)) (fun r => r = ndl l y)
    (fun s hs => ⟨s, by rw [hs, List.take_length]; rfl, Ev.step (f := fun _ => some s) (fun k => by rw [spec_l7Needs.l0, if_neg (by omega)]) (Ev.now _)⟩)
    (fun i s hi hs => by
      have hm := mulB _ y (hp _ (getD_mem z43 l i hi)) hy
      have e0 : rd_T43 l (i : Int) = l.getD i z43 := rfl
      have hle : s.length ≤ l.length := by rw [hs, List.length_map]; exact List.length_take_le' i l
      refine ⟨s ++ [nd1 (l.getD i z43) y], by rw [hs, ndl_take l y i hi], fun r h => Ev.step (fun k => ?_) h⟩
      rw [spec_l7Needs.l0, if_pos (by omega), if_pos (by omega), e0]
      unfold nd1
      obtain ⟨q, hq⟩ : ∃ q, q = (l.getD i z43).f1 * y := ⟨_, rfl⟩
      rw [← hq] at hm ⊢
      rw [if_pos (by omega), wrap_id q (by omega) (by omega), wrap_id (q + 999) (by omega) (by omega), Int.tdiv_eq_ediv_of_nonneg (by omega), wrap_id ((q + 999) / 1000) (by omega) (by omega), wrap_id ((i : Int) + 1) (by omega) (by omega)]) [] rfl
  subst hr
  exact h
theorem mn_le (y a b : Int) : y ≤ mn a b ↔ y ≤ a ∧ y ≤ b := by unfold mn; split <;> omega
def mst (l : List DPt) (s : List Int) (a : Int) : Nat → Int
  | 0 => mn 50000 (Int.tdiv a 20 * 1000)
  | i + 1 => mn (mst l s a i) (Int.tdiv (1000 * s.getD i 0) (l.getD i z43).f1)
theorem mst_iff (l : List DPt) (s : List Int) (a y : Int) (n : Nat) : y ≤ mst l s a n ↔ y ≤ 50000 ∧ y ≤ Int.tdiv a 20 * 1000 ∧ ∀ i, i < n → y ≤ Int.tdiv (1000 * s.getD i 0) (l.getD i z43).f1 := by
  induction n with
  | zero => rw [mst, mn_le]; exact ⟨fun h => ⟨h.1, h.2, fun i hi => by omega⟩, fun h => ⟨h.1, h.2.1⟩⟩
  | succ n ih =>
    rw [mst, mn_le, ih]
    constructor
    · rintro ⟨⟨h1, h2, h3⟩, h4⟩
      refine ⟨h1, h2, fun i hi => ?_⟩
      by_cases c : i = n
      · rw [c]; exact h4
      · exact h3 i (by omega)
    · rintro ⟨h1, h2, h3⟩
      exact ⟨⟨h1, h2, fun i hi => h3 i (by omega)⟩, h3 n (by omega)⟩
theorem div_le' (y s p : Int) (hp : 1 ≤ p) (hs : 0 ≤ s) : y ≤ Int.tdiv (1000 * s) p ↔ p * y ≤ 1000 * s := by
  rw [Int.tdiv_eq_ediv_of_nonneg (by omega), Int.le_ediv_iff_mul_le (by omega), Int.mul_comm]
theorem mostYarn_ev (l : List DPt) (a b c : Int) (s : List Int) (h : okBath l a b c s = true) : Ev (fun k => impl_Bath_mostYarn.f k a b c s l) (mst l s a l.length) := by
  obtain ⟨h1, h2, h3, h4, h5, h6⟩ := okBath_iff l a b c s h
  obtain ⟨g1, g2, g3⟩ := rcp_iff l h1
  unfold impl_Bath_mostYarn.f
  obtain ⟨r, hr, h⟩ := Ev.loopE (fun k i (m : Int) => impl_Bath_mostYarn.l0 k m l (l.length : Int) i a b c s) l.length (fun i m => m = mst l s a i) (fun r => r = mst l s a l.length)
    (fun m hm => ⟨m, hm, Ev.step (f := fun _ => some m) (fun k => by rw [impl_Bath_mostYarn.l0, if_neg (by omega)]) (Ev.now _)⟩)
    (fun i m hi hm => by
      have hp := g2 _ (getD_mem z43 l i hi)
      have hs := h6 i hi
      have e0 : rd_T43 l (i : Int) = l.getD i z43 := rfl
      have e1 : rd s (i : Int) = s.getD i 0 := rfl
      refine ⟨mst l s a (i + 1), rfl, fun r h => Ev.step (fun k => ?_) h⟩
      rw [impl_Bath_mostYarn.l0, if_pos (by omega), if_pos (by omega), if_pos (by omega), if_pos (by omega), e0, e1, if_neg (by omega), mst, ← hm]
      obtain ⟨q, hq⟩ : ∃ q, q = s.getD i 0 := ⟨_, rfl⟩
      obtain ⟨p, hpp⟩ : ∃ p, p = (l.getD i z43).f1 := ⟨_, rfl⟩
      rw [← hq] at hs ⊢
      rw [← hpp] at hp ⊢
      have d0 : 0 ≤ Int.tdiv (1000 * q) p := Int.tdiv_nonneg (by omega) (by omega)
      have d1 : Int.tdiv (1000 * q) p ≤ 1000 * q := by rw [Int.tdiv_eq_ediv_of_nonneg (by omega)]; exact Int.ediv_le_self _ (by omega)
      rw [wrap_id (1000 * q) (by omega) (by omega), wrap_id (Int.tdiv (1000 * q) p) (by omega) (by omega), wrap_id ((i : Int) + 1) (by omega) (by omega)]) (mst l s a 0) rfl
  subst hr
  rw [mst, ← wrap_id (Int.tdiv a 20 * 1000) (by rw [Int.tdiv_eq_ediv_of_nonneg (by omega)]; omega) (by rw [Int.tdiv_eq_ediv_of_nonneg (by omega)]; omega)] at h
  rw [wrap_id (Int.tdiv a 20) (by rw [Int.tdiv_eq_ediv_of_nonneg (by omega)]; omega) (by rw [Int.tdiv_eq_ediv_of_nonneg (by omega)]; omega)]
  exact h
def rdyV (l : List DPt) (a b y : Int) (s : List Int) : Bool := rng b 60 95 && decide (y ≤ mst l s a l.length)
theorem isReady_ev (l : List DPt) (a b c : Int) (s : List Int) (h : okBath l a b c s = true) : Ev (fun k => impl_Bath_isReady.f k a b c s l) (rdyV l a b c s) := by
  unfold impl_Bath_isReady.f impl_Bath_isWarm.f rdyV
  simp only [in_eq, Option.bind_some]
  cases rng b 60 95 with
  | false => exact Ev.now _
  | true =>
    simp only [if_true, Bool.true_and]
    exact Ev.bind (mostYarn_ev l a b c s h) (Ev.now _)
theorem l7Ready_ev (l : List DPt) (a b c y : Int) (s : List Int) (h : okBath l a b c s = true) (hy : 0 ≤ y ∧ y ≤ 50000) : Ev (fun k => spec_l7Ready.f k l a b c s y) (rdyV l a b y s) := by
  obtain ⟨h1, h2, h3, h4, h5, h6⟩ := okBath_iff l a b c s h
  obtain ⟨g1, g2, g3⟩ := rcp_iff l h1
  unfold spec_l7Ready.f
  refine Ev.bind (l7Needs_ev l y (by omega) g2 ⟨hy.1, by omega⟩) ?_
  have hlen : (ndl l y).length = l.length := by unfold ndl; rw [List.length_map]
  have d0 : Int.tdiv (y + 999) 1000 = (y + 999) / 1000 := Int.tdiv_eq_ediv_of_nonneg (by omega)
  have d1 : Int.tdiv a 20 = a / 20 := Int.tdiv_eq_ediv_of_nonneg (by omega)
  have e : rdyV l a b y s = ((List.range l.length).all (fun i => decide ((ndl l y).getD i 0 ≤ s.getD i 0)) && (decide (a ≥ 20 * Int.tdiv (y + 999) 1000) && rng b 60 95)) := by
    unfold rdyV
    rw [Bool.eq_iff_iff, Bool.and_eq_true, Bool.and_eq_true, Bool.and_eq_true, all_range, decide_eq_true_iff, decide_eq_true_iff, mst_iff]
    have key : ∀ i, i < l.length → (y ≤ Int.tdiv (1000 * s.getD i 0) (l.getD i z43).f1 ↔ decide ((ndl l y).getD i 0 ≤ s.getD i 0) = true) := fun i hi => by
      have hp := g2 _ (getD_mem z43 l i hi)
      have hm := mulB _ y hp ⟨hy.1, by omega⟩
      rw [div_le' _ _ _ hp.1 (h6 i hi).1, decide_eq_true_iff, ndl_getD l y i hi]
      unfold nd1
      rw [Int.tdiv_eq_ediv_of_nonneg (by omega)]
      omega
    constructor
    · rintro ⟨w, _, k1, k2⟩
      refine ⟨fun i hi => (key i hi).1 (k2 i hi), ?_, w⟩
      rw [d1] at k1
      rw [d0]
      omega
    · rintro ⟨k2, k1, w⟩
      refine ⟨w, by omega, ?_, fun i hi => (key i hi).2 (k2 i hi)⟩
      rw [d0] at k1
      rw [d1]
      omega
  rw [e]
  refine Ev.scan (fun k i => spec_l7Ready.l0 k y (ndl l y) i a b c s) l.length _ _ (Ev.step (f := fun _ => some _) (fun k => ?_) (Ev.now _)) ?_ ?_
  · rw [spec_l7Ready.l0, hlen, if_neg (by omega), wrap_id (y + 999) (by omega) (by omega), wrap_id (Int.tdiv (y + 999) 1000) (by rw [d0]; omega) (by rw [d0]; omega), wrap_id (20 * Int.tdiv (y + 999) 1000) (by rw [d0]; omega) (by rw [d0]; omega), l1In_eq]
    by_cases c : a ≥ 20 * Int.tdiv (y + 999) 1000
    · rw [if_pos c, decide_eq_true c]; rfl
    · rw [if_neg c, decide_eq_false c]; rfl
  · intro i hi hg
    refine Ev.step (f := fun _ => some false) (fun k => ?_) (Ev.now _)
    have hg' := of_decide_eq_false hg
    rw [spec_l7Ready.l0, hlen, if_pos (by omega), if_pos (by omega), if_pos (by omega), if_pos]
    show s.getD i 0 < (ndl l y).getD i 0
    omega
  · intro i r hi hg hr
    refine Ev.step (fun k => ?_) hr
    have hg' := of_decide_eq_true hg
    rw [spec_l7Ready.l0, hlen, if_pos (by omega), if_pos (by omega), if_pos (by omega), if_neg, wrap_id ((i : Int) + 1) (by omega) (by omega)]
    show ¬ s.getD i 0 < (ndl l y).getD i 0
    omega
def isReadyV (l : List DPt) (a b c : Int) (s : List Int) : Bool × Bool := if okBath l a b c s = true then (rdyV l a b c s, true) else (false, false)
theorem IsReady_ev (l : List DPt) (a b c : Int) (s : List Int) (hl : l.length ≤ 1000) : Ev (fun k => impl_IsReady.f k l a b c s) (isReadyV l a b c s) := by
  unfold impl_IsReady.f isReadyV
  refine Ev.bind (IsBath_ev l a b c s hl) ?_
  cases hb : okBath l a b c s with
  | false => exact Ev.now _
  | true =>
    simp only [if_true]
    exact Ev.bind (isReady_ev l a b c s hb) (Ev.now _)
theorem sIsReady_ev (l : List DPt) (a b c : Int) (s : List Int) (hl : l.length ≤ 1000) (hz : ∀ x ∈ l, x.f0.size ≤ 1000) (hs : s.length ≤ 1000) : Ev (fun k => spec_IsReady.f k l a b c s) (isReadyV l a b c s) := by
  unfold spec_IsReady.f isReadyV
  refine Ev.bind (l7Bath_ev l a b c s hl hz hs) ?_
  cases hb : okBath l a b c s with
  | false => exact Ev.now _
  | true =>
    simp only [if_true]
    exact Ev.bind (l7Ready_ev l a b c c s hb (okBath_iff l a b c s hb).2.2.2.1) (Ev.now _)
def mostV (l : List DPt) (a b c : Int) (s : List Int) : Int × Bool := if okBath l a b c s = true then (if rng b 60 95 = true then (mst l s a l.length, true) else (0, false)) else (0, false)
theorem MostYarn_ev (l : List DPt) (a b c : Int) (s : List Int) (hl : l.length ≤ 1000) : Ev (fun k => impl_MostYarn.f k l a b c s) (mostV l a b c s) := by
  unfold impl_MostYarn.f mostV impl_Bath_isWarm.f
  refine Ev.bind (IsBath_ev l a b c s hl) ?_
  cases hb : okBath l a b c s with
  | false => exact Ev.now _
  | true =>
    simp only [if_true, in_eq, Option.bind_some]
    cases rng b 60 95 with
    | false => exact Ev.now _
    | true =>
      simp only [if_true]
      exact Ev.bind (mostYarn_ev l a b c s hb) (Ev.now _)
theorem mst_nonneg (l : List DPt) (a b c : Int) (s : List Int) (h : okBath l a b c s = true) : 0 ≤ mst l s a l.length ∧ mst l s a l.length ≤ 50000 := by
  obtain ⟨h1, h2, h3, h4, h5, h6⟩ := okBath_iff l a b c s h
  obtain ⟨g1, g2, g3⟩ := rcp_iff l h1
  constructor
  · rw [mst_iff]
    refine ⟨by omega, by rw [Int.tdiv_eq_ediv_of_nonneg (by omega)]; omega, fun i hi => ?_⟩
    have hp := g2 _ (getD_mem z43 l i hi)
    exact Int.tdiv_nonneg (by have := h6 i hi; omega) (by omega)
  · exact ((mst_iff l s a _ l.length).1 (Int.le_refl _)).1
theorem search_ev (l : List DPt) (a b c : Int) (s : List Int) (h : okBath l a b c s = true) (hw : rng b 60 95 = true) : ∀ (d : Nat) (lo hi : Int), hi - lo ≤ (d : Int) → 0 ≤ lo → lo ≤ mst l s a l.length → mst l s a l.length ≤ hi → hi ≤ 50000 → Ev (fun k => spec_MostYarn.l0 k l lo hi a b c s) (mst l s a l.length, true) := by
  intro d
  induction d with
  | zero =>
    intro lo hi hd h0 h1 h2 h3
    refine Ev.step (f := fun _ => some _) (fun k => ?_) (Ev.now _)
    rw [spec_MostYarn.l0, if_neg (by omega), show lo = mst l s a l.length by omega]
  | succ d ih =>
    intro lo hi hd h0 h1 h2 h3
    by_cases c1 : lo < hi
    · have em : wrap64 (Int.tdiv (wrap64 (wrap64 (lo + hi) + 1)) 2) = (lo + hi + 1) / 2 := by
        rw [wrap_id (lo + hi) (by omega) (by omega), wrap_id (lo + hi + 1) (by omega) (by omega), Int.tdiv_eq_ediv_of_nonneg (by omega), wrap_id _ (by omega) (by omega)]
      refine Ev.step (fun k => by rw [spec_MostYarn.l0, if_pos c1, em]) (Ev.bind (l7Ready_ev l a b c ((lo + hi + 1) / 2) s h (by omega)) ?_)
      unfold rdyV
      rw [hw, Bool.true_and]
      by_cases c2 : (lo + hi + 1) / 2 ≤ mst l s a l.length
      · rw [decide_eq_true c2]
        simp only [if_true]
        exact ih _ _ (by omega) (by omega) c2 h2 h3
      · rw [decide_eq_false c2]
        simp only [Bool.false_eq_true, if_false, wrap_id ((lo + hi + 1) / 2 - 1) (show -9223372036854775808 ≤ (lo + hi + 1) / 2 - 1 by omega) (show (lo + hi + 1) / 2 - 1 ≤ 9223372036854775807 by omega)]
        exact ih _ _ (by omega) (by omega) h1 (by omega) (by omega)
    · refine Ev.step (f := fun _ => some _) (fun k => ?_) (Ev.now _)
      rw [spec_MostYarn.l0, if_neg c1, show lo = mst l s a l.length by omega]
theorem sMostYarn_ev (l : List DPt) (a b c : Int) (s : List Int) (hl : l.length ≤ 1000) (hz : ∀ x ∈ l, x.f0.size ≤ 1000) (hs : s.length ≤ 1000) : Ev (fun k => spec_MostYarn.f k l a b c s) (mostV l a b c s) := by
  have hj : Ev (fun k => spec_MostYarn.j0 k l true a b c s) (0, false) := Ev.step (f := fun _ => some (0, false)) (fun k => by rw [spec_MostYarn.j0, if_pos rfl]) (Ev.now _)
  unfold spec_MostYarn.f mostV
  refine Ev.bind (l7Bath_ev l a b c s hl hz hs) ?_
  cases hb : okBath l a b c s with
  | false => simp only [Bool.false_eq_true, if_false]; exact hj
  | true =>
    simp only [if_true]
    have hm := mst_nonneg l a b c s hb
    refine Ev.bind (l7Ready_ev l a b c 0 s hb (by omega)) ?_
    unfold rdyV
    rw [decide_eq_true hm.1, Bool.and_true]
    cases hw : rng b 60 95 with
    | false => simp only [Bool.false_eq_true, if_false, Bool.not_false]; exact hj
    | true =>
      simp only [if_true, Bool.not_true]
      refine Ev.step (fun k => by rw [spec_MostYarn.j0, if_neg Bool.false_ne_true]) ?_
      exact search_ev l a b c s hb hw 50000 0 50000 (by omega) (by omega) hm.1 hm.2 (by omega)
def needV (l : List DPt) (y : Int) : List Int × Bool := if rcp l = true then (if rng y 0 50000 = true then (ndl l y, true) else ([], false)) else ([], false)
theorem NeedsFor_ev (l : List DPt) (y : Int) (hl : l.length ≤ 1000) : Ev (fun k => impl_NeedsFor.f k l y) (needV l y) := by
  unfold impl_NeedsFor.f needV impl_isGrams.f
  refine Ev.bind (IsRecipe_ev l hl) ?_
  cases hb : rcp l with
  | false => exact Ev.now _
  | true =>
    simp only [if_true, in_eq, Option.bind_some]
    cases hy : rng y 0 50000 with
    | false => exact Ev.now _
    | true =>
      simp only [if_true]
      have := (rng_iff _ _ _).1 hy
      exact Ev.bind (needs_ev l y hl (rcp_iff l hb).2.1 (by omega)) (Ev.now _)
theorem sNeedsFor_ev (l : List DPt) (y : Int) (hl : l.length ≤ 1000) (hz : ∀ x ∈ l, x.f0.size ≤ 1000) : Ev (fun k => spec_NeedsFor.f k l y) (needV l y) := by
  unfold spec_NeedsFor.f needV spec_l7Grams.f
  refine Ev.bind (l7Good_ev l hl hz) ?_
  cases hb : rcp l with
  | false => exact Ev.now _
  | true =>
    simp only [if_true, l1In_eq, Option.bind_some]
    cases hy : rng y 0 50000 with
    | false => exact Ev.now _
    | true =>
      simp only [if_true]
      have := (rng_iff _ _ _).1 hy
      exact Ev.bind (l7Needs_ev l y hl (rcp_iff l hb).2.1 (by omega)) (Ev.now _)
def dy1 (l : List DPt) (s : List Int) (y : Int) (i : Nat) : Int := s.getD i 0 - (ndl l y).getD i 0
def dyeL (l : List DPt) (s : List Int) (y : Int) : List Int := (List.range l.length).map (dy1 l s y)
theorem dyeL_len (l : List DPt) (s : List Int) (y : Int) : (dyeL l s y).length = l.length := by unfold dyeL; rw [List.length_map, List.length_range]
theorem dyeL_getD (l : List DPt) (s : List Int) (y : Int) (i : Nat) (hi : i < l.length) : (dyeL l s y).getD i 0 = dy1 l s y i := by
  unfold dyeL
  rw [getD_map' (dy1 l s y) 0 0 _ i (by rw [List.length_range]; exact hi), List.getD_eq_getElem?_getD, List.getElem?_range hi]
  rfl
theorem nd_bound (l : List DPt) (a b c : Int) (s : List Int) (h : okBath l a b c s = true) (i : Nat) (hi : i < l.length) : 0 ≤ (ndl l c).getD i 0 ∧ (ndl l c).getD i 0 ≤ 50000 := by
  obtain ⟨h1, h2, h3, h4, h5, h6⟩ := okBath_iff l a b c s h
  obtain ⟨g1, g2, g3⟩ := rcp_iff l h1
  have hp := g2 _ (getD_mem z43 l i hi)
  have hm : 0 ≤ (l.getD i z43).f1 * c ∧ (l.getD i z43).f1 * c ≤ 1000 * 50000 := ⟨Int.mul_nonneg (by omega) h4.1, Int.mul_le_mul hp.2 h4.2 h4.1 (by omega)⟩
  rw [ndl_getD l c i hi]
  unfold nd1
  rw [Int.tdiv_eq_ediv_of_nonneg (by omega)]
  omega
theorem rdy_enough (l : List DPt) (a b c : Int) (s : List Int) (h : okBath l a b c s = true) (hr : rdyV l a b c s = true) (i : Nat) (hi : i < l.length) : (ndl l c).getD i 0 ≤ s.getD i 0 := by
  obtain ⟨h1, h2, h3, h4, h5, h6⟩ := okBath_iff l a b c s h
  obtain ⟨g1, g2, g3⟩ := rcp_iff l h1
  unfold rdyV at hr
  rw [Bool.and_eq_true, decide_eq_true_iff, mst_iff] at hr
  have hp := g2 _ (getD_mem z43 l i hi)
  have hm := mulB _ c hp ⟨h4.1, by omega⟩
  have hq := hr.2.2.2 i hi
  rw [div_le' _ _ _ hp.1 (h6 i hi).1] at hq
  rw [ndl_getD l c i hi]
  unfold nd1
  rw [Int.tdiv_eq_ediv_of_nonneg (by omega)]
  omega
def dyeV (l : List DPt) (a b c : Int) (s : List Int) : Int × Int × Int × List Int × Bool := if okBath l a b c s = true then (if rdyV l a b c s = true then (a, b, 0, dyeL l s c, true) else (0, 0, 0, [], false)) else (0, 0, 0, [], false)
theorem DyeYarn_ev (l : List DPt) (a b c : Int) (s : List Int) (hl : l.length ≤ 1000) : Ev (fun k => impl_DyeYarn.f k l a b c s) (dyeV l a b c s) := by
  have hj : Ev (fun k => impl_DyeYarn.j0 k l true a b c s) (0, 0, 0, [], false) := Ev.step (f := fun _ => some (0, 0, 0, [], false)) (fun k => by rw [impl_DyeYarn.j0, if_pos rfl]) (Ev.now _)
  unfold impl_DyeYarn.f dyeV
  refine Ev.bind (IsBath_ev l a b c s hl) ?_
  cases hb : okBath l a b c s with
  | false => simp only [Bool.false_eq_true, if_false]; exact hj
  | true =>
    simp only [if_true]
    refine Ev.bind (isReady_ev l a b c s hb) ?_
    cases hr : rdyV l a b c s with
    | false => simp only [Bool.false_eq_true, if_false, Bool.not_false]; exact hj
    | true =>
      simp only [if_true, Bool.not_true]
      obtain ⟨h1, h2, h3, h4, h5, h6⟩ := okBath_iff l a b c s hb
      obtain ⟨g1, g2, g3⟩ := rcp_iff l h1
      have hlen : (ndl l c).length = l.length := by unfold ndl; rw [List.length_map]
      have hcl : slices_Clone_int.f s = some s := if_pos (by omega)
      refine Ev.step (fun k => by rw [impl_DyeYarn.j0, if_neg Bool.false_ne_true, hcl, Option.bind_some]) (Ev.bind (needs_ev l c hl g2 (by omega)) ?_)
      obtain ⟨r, hr2, h⟩ := Ev.loopE (fun k i (u : List Int) => impl_DyeYarn.l0 k (ndl l c) ((ndl l c).length : Int) i a b 0 u) l.length (fun i u => u.length = l.length ∧ ∀ j, j < l.length → u.getD j 0 = if j < i then dy1 l s c j else s.getD j 0) (fun r => r = (a, b, 0, dyeL l s c, true))
        (fun u hu => ⟨(a, b, 0, u, true), by
          rw [ext_getD 0 u (dyeL l s c) (by rw [hu.1, dyeL_len]) (fun j hj => by rw [hu.2 j (by omega), if_pos (by omega), dyeL_getD l s c j (by omega)])], Ev.step (f := fun _ => some (a, b, 0, u, true)) (fun k => by rw [impl_DyeYarn.l0, hlen, if_neg (by omega)]) (Ev.now _)⟩)
        (fun i u hi hu => by
          have e0 : rd u (i : Int) = s.getD i 0 := by show u.getD i 0 = _; rw [hu.2 i hi, if_neg (by omega)]
          have e1 : rd (ndl l c) (i : Int) = (ndl l c).getD i 0 := rfl
          have b1 := nd_bound l a b c s hb i hi
          have b2 := h6 i hi
          refine ⟨u.set i (dy1 l s c i), ⟨by rw [List.length_set]; exact hu.1, fun j hj => ?_⟩, fun r h => Ev.step (fun k => ?_) h⟩
          · rw [getD_set]
            by_cases e : i = j
            · rw [if_pos ⟨e, by omega⟩, if_pos (by omega), e]
            · rw [if_neg (fun h => e h.1), hu.2 j hj]
              by_cases e2 : j < i
              · rw [if_pos e2, if_pos (by omega)]
              · rw [if_neg e2, if_neg (by omega)]
          · have hul := hu.1
            rw [impl_DyeYarn.l0, hlen, if_pos (by omega), if_pos (by omega), if_pos (by omega), if_pos (by omega), e0, e1, wrap_id (s.getD i 0 - (ndl l c).getD i 0) (by omega) (by omega), wrap_id ((i : Int) + 1) (by omega) (by omega)]
            rfl) s ⟨h5, fun j hj => by rw [if_neg (by omega)]⟩
      subst hr2
      exact h
theorem sDyeYarn_ev (l : List DPt) (a b c : Int) (s : List Int) (hl : l.length ≤ 1000) (hz : ∀ x ∈ l, x.f0.size ≤ 1000) (hs : s.length ≤ 1000) : Ev (fun k => spec_DyeYarn.f k l a b c s) (dyeV l a b c s) := by
  have hj : Ev (fun k => spec_DyeYarn.j0 k l true a b c s) (0, 0, 0, [], false) := Ev.step (f := fun _ => some (0, 0, 0, [], false)) (fun k => by rw [spec_DyeYarn.j0, if_pos rfl]) (Ev.now _)
  unfold spec_DyeYarn.f dyeV
  refine Ev.bind (l7Bath_ev l a b c s hl hz hs) ?_
  cases hb : okBath l a b c s with
  | false => simp only [Bool.false_eq_true, if_false]; exact hj
  | true =>
    simp only [if_true]
    obtain ⟨h1, h2, h3, h4, h5, h6⟩ := okBath_iff l a b c s hb
    obtain ⟨g1, g2, g3⟩ := rcp_iff l h1
    refine Ev.bind (l7Ready_ev l a b c c s hb h4) ?_
    cases hr : rdyV l a b c s with
    | false => simp only [Bool.false_eq_true, if_false, Bool.not_false]; exact hj
    | true =>
      simp only [if_true, Bool.not_true]
      have hlen : (ndl l c).length = l.length := by unfold ndl; rw [List.length_map]
      refine Ev.step (fun k => by rw [spec_DyeYarn.j0, if_neg Bool.false_ne_true]) (Ev.bind (l7Needs_ev l c hl g2 (by omega)) ?_)
      obtain ⟨r, hr2, h⟩ := Ev.loopE (fun k i (u : List Int) => spec_DyeYarn.l0 k (ndl l c) i a b c s a b 0 u) l.length (fun i u => u = (List.range i).map (dy1 l s c)) (fun r => r = (a, b, 0, dyeL l s c, true))
        (fun u hu => ⟨(a, b, 0, u, true), by rw [hu]; rfl, Ev.step (f := fun _ => some (a, b, 0, u, true)) (fun k => by rw [spec_DyeYarn.l0, hlen, if_neg (by omega)]) (Ev.now _)⟩)
        (fun i u hi hu => by
          have e0 : rd s (i : Int) = s.getD i 0 := rfl
          have e1 : rd (ndl l c) (i : Int) = (ndl l c).getD i 0 := rfl
          have b1 := nd_bound l a b c s hb i hi
          have b2 := h6 i hi
          have hul : u.length = i := by rw [hu, List.length_map, List.length_range]
          refine ⟨u ++ [dy1 l s c i], by rw [hu, List.range_succ, List.map_append]; rfl, fun r h => Ev.step (fun k => ?_) h⟩
          rw [spec_DyeYarn.l0, hlen, if_pos (by omega), if_pos (by omega), if_pos (by omega), if_pos (by omega), e0, e1, wrap_id (s.getD i 0 - (ndl l c).getD i 0) (by omega) (by omega), wrap_id ((i : Int) + 1) (by omega) (by omega)]
          rfl) [] rfl
      subst hr2
      exact h
theorem Ev.upto {ρ : Type} (g : Nat → Int → Option ρ) (r : ρ) (n : Nat) (hend : Ev (fun k => g k (n : Int)) r) (hstep : ∀ i : Nat, i < n → Ev (fun k => g k ((i : Int) + 1)) r → Ev (fun k => g k (i : Int)) r) : Ev (fun k => g k 0) r := by
  have key : ∀ d i : Nat, i + d = n → Ev (fun k => g k (i : Int)) r := by
    intro d
    induction d with
    | zero =>
      intro i hi
      have : i = n := by omega
      subst this
      exact hend
    | succ d ih =>
      intro i hi
      have h := ih (i + 1) (by omega)
      have e : ((i + 1 : Nat) : Int) = (i : Int) + 1 := by omega
      rw [e] at h
      exact hstep i (by omega) h
  exact key n 0 (by omega)
def isSt (t : ByteArray) (x : DPt) : Bool := decide (x.f0.toList = t.toList)
theorem findI_out {α : Type} (p : α → Bool) (z : α) (l : List α) : (findI p l < 0 → ∀ j, j < l.length → p (l.getD j z) = false) ∧ (0 ≤ findI p l → (findI p l).toNat < l.length ∧ p (l.getD (findI p l).toNat z) = true) := by
  induction l with
  | nil => exact ⟨fun _ j hj => absurd hj (Nat.not_lt_zero _), fun h => absurd h (by show ¬ (0 : Int) ≤ -1; omega)⟩
  | cons x r ih =>
    have hge := findI_ge p r
    unfold findI
    by_cases hx : p x = true
    · rw [if_pos hx]
      exact ⟨fun h => by omega, fun _ => ⟨by rw [List.length_cons]; show 0 < _; omega, hx⟩⟩
    · rw [if_neg hx]
      have hx' : p x = false := by cases h : p x with | true => exact absurd h hx | false => rfl
      by_cases c : findI p r < 0
      · rw [if_pos c]
        refine ⟨fun _ j hj => ?_, fun h => by omega⟩
        cases j with
        | zero => exact hx'
        | succ j => exact ih.1 c j (by rw [List.length_cons] at hj; omega)
      · rw [if_neg c]
        refine ⟨fun h => by omega, fun _ => ?_⟩
        have := ih.2 (by omega)
        rw [show (findI p r + 1).toNat = (findI p r).toNat + 1 by omega]
        exact ⟨by rw [List.length_cons]; omega, this.2⟩
def addV (l : List DPt) (a b c : Int) (s : List Int) (t : ByteArray) (g : Int) : Int × Int × Int × List Int × Bool :=
  if okBath l a b c s = true ∧ 0 ≤ findI (isSt t) l ∧ rng g 0 50000 = true ∧ s.getD (findI (isSt t) l).toNat 0 + g ≤ 50000 then (a, b, c, s.set (findI (isSt t) l).toNat (s.getD (findI (isSt t) l).toNat 0 + g), true) else (0, 0, 0, [], false)
theorem addV_no (l : List DPt) (a b c : Int) (s : List Int) (t : ByteArray) (g : Int) (h : ¬ (okBath l a b c s = true ∧ 0 ≤ findI (isSt t) l ∧ rng g 0 50000 = true ∧ s.getD (findI (isSt t) l).toNat 0 + g ≤ 50000)) : addV l a b c s t g = (0, 0, 0, [], false) := if_neg h
theorem addV_yes (l : List DPt) (a b c : Int) (s : List Int) (t : ByteArray) (g : Int) (h : okBath l a b c s = true ∧ 0 ≤ findI (isSt t) l ∧ rng g 0 50000 = true ∧ s.getD (findI (isSt t) l).toNat 0 + g ≤ 50000) : addV l a b c s t g = (a, b, c, s.set (findI (isSt t) l).toNat (s.getD (findI (isSt t) l).toNat 0 + g), true) := if_pos h
theorem AddStuff_ev (l : List DPt) (a b c : Int) (s : List Int) (t : ByteArray) (g : Int) (hl : l.length ≤ 1000) : Ev (fun k => impl_AddStuff.f k l a b c s t g) (addV l a b c s t g) := by
  unfold impl_AddStuff.f impl_findStuff.f impl_isGrams.f
  have ef : (fun x : DPt => decide (x.f0.toList = t.toList)) = isSt t := rfl
  obtain ⟨f, hf⟩ : ∃ f, f = findI (isSt t) l := ⟨_, rfl⟩
  have hfo := findI_out (isSt t) z43 l
  simp only [ef, Option.bind_some, in_eq]
  rw [← hf] at hfo ⊢
  refine Ev.bind (IsBath_ev l a b c s hl) ?_
  cases hb : okBath l a b c s with
  | false =>
    rw [addV_no l a b c s t g (fun h => by rw [hb] at h; cases h.1)]
    simp only [Bool.false_eq_true, if_false]
    exact Ev.now _
  | true =>
    simp only [if_true]
    obtain ⟨h1, h2, h3, h4, h5, h6⟩ := okBath_iff l a b c s hb
    by_cases c0 : f < 0
    · rw [addV_no l a b c s t g (fun h => by rw [← hf] at h; omega)]
      simp only [if_pos c0]
      exact Ev.now _
    · simp only [if_neg c0]
      obtain ⟨k1, k2⟩ := hfo.2 (by omega)
      cases hg : rng g 0 50000 with
      | false =>
        rw [addV_no l a b c s t g (fun h => by rw [hg] at h; cases h.2.2.1)]
        simp only [Bool.false_eq_true, if_false]
        exact Ev.now _
      | true =>
        have hg2 := (rng_iff _ _ _).1 hg
        have e0 : rd s f = s.getD f.toNat 0 := rfl
        have hb2 := h6 f.toNat k1
        have hcl : slices_Clone_int.f s = some s := if_pos (by omega)
        simp only [if_true, if_pos (show 0 ≤ f by omega), if_pos (show f < (s.length : Int) by omega), e0, wrap_id (s.getD f.toNat 0 + g) (show -9223372036854775808 ≤ s.getD f.toNat 0 + g by omega) (show s.getD f.toNat 0 + g ≤ 9223372036854775807 by omega), hcl, Option.bind_some]
        by_cases c1 : s.getD f.toNat 0 + g ≤ 50000
        · rw [addV_yes l a b c s t g (by rw [← hf]; exact ⟨hb, by omega, hg, c1⟩), ← hf]
          simp only [if_neg (show ¬ s.getD f.toNat 0 + g > 50000 by omega)]
          exact Ev.now _
        · rw [addV_no l a b c s t g (fun h => by rw [← hf] at h; exact c1 h.2.2.2)]
          simp only [if_pos (show s.getD f.toNat 0 + g > 50000 by omega)]
          exact Ev.now _
theorem okBath_set (l : List DPt) (a b c : Int) (s : List Int) (i : Nat) (v : Int) (h : okBath l a b c s = true) (hi : i < s.length) : okBath l a b c (s.set i v) = rng v 0 50000 := by
  have h' := h
  unfold okBath at h ⊢
  simp only [Bool.and_eq_true] at h
  obtain ⟨h1, h2, h3, h4, h5, h6⟩ := h
  rw [h1, h2, h3, h4, List.length_set, h5, Bool.true_and, Bool.true_and, Bool.true_and, Bool.true_and, Bool.true_and, Bool.eq_iff_iff, all_getD 0]
  constructor
  · intro h
    have := h i (by rw [List.length_set]; exact hi)
    rw [getD_set, if_pos ⟨rfl, hi⟩] at this
    exact this
  · intro h j hj
    rw [List.length_set] at hj
    rw [getD_set]
    by_cases e : i = j
    · rw [if_pos ⟨e, hj⟩]; exact h
    · rw [if_neg (fun x => e x.1)]; exact (all_getD 0 s _).1 h6 j hj
theorem sAddStuff_ev (l : List DPt) (a b c : Int) (s : List Int) (t : ByteArray) (g : Int) (hl : l.length ≤ 1000) (hz : ∀ x ∈ l, x.f0.size ≤ 1000) (hs : s.length ≤ 1000) : Ev (fun k => spec_AddStuff.f k l a b c s t g) (addV l a b c s t g) := by
  have hj : Ev (fun k => spec_AddStuff.j0 k l t g true a b c s) (0, 0, 0, [], false) := Ev.step (f := fun _ => some (0, 0, 0, [], false)) (fun k => by rw [spec_AddStuff.j0, if_pos rfl]) (Ev.now _)
  unfold spec_AddStuff.f spec_l7Grams.f
  obtain ⟨f, hf⟩ : ∃ f, f = findI (isSt t) l := ⟨_, rfl⟩
  have hfo := findI_out (isSt t) z43 l
  rw [← hf] at hfo
  simp only [Option.bind_some, l1In_eq]
  refine Ev.bind (l7Bath_ev l a b c s hl hz hs) ?_
  cases hb : okBath l a b c s with
  | false =>
    rw [addV_no l a b c s t g (fun h => by rw [hb] at h; cases h.1)]
    simp only [Bool.false_eq_true, if_false]
    exact hj
  | true =>
    simp only [if_true]
    obtain ⟨h1, h2, h3, h4, h5, h6⟩ := okBath_iff l a b c s hb
    cases hg : rng g 0 50000 with
    | false =>
      rw [addV_no l a b c s t g (fun h => by rw [hg] at h; cases h.2.2.1)]
      simp only [Bool.not_false]
      exact hj
    | true =>
      simp only [Bool.not_true]
      have hg2 := (rng_iff _ _ _).1 hg
      have how : spec_l1Own.f s = some s := by
        unfold spec_l1Own.f
        rw [Option.bind_some, if_pos (by rw [List.length_nil]; omega), List.nil_append]
      refine Ev.step (fun k => by rw [spec_AddStuff.j0, if_neg Bool.false_ne_true, how, Option.bind_some]) ?_
      have isst : ∀ i : Nat, ((rd_T43 l (i : Int)).f0.toList = t.toList ↔ isSt t (l.getD i z43) = true) := fun i => by unfold isSt; rw [decide_eq_true_iff]; exact Iff.rfl
      by_cases c0 : f < 0
      · rw [addV_no l a b c s t g (fun h => by rw [← hf] at h; omega)]
        have hno := hfo.1 c0
        refine Ev.upto (fun k i => spec_AddStuff.l0 k l t g false i a b c s) _ l.length ?_ ?_
        · exact Ev.step (f := fun _ => some (0, 0, 0, [], false)) (fun k => by rw [spec_AddStuff.l0, if_neg (by omega), if_neg Bool.false_ne_true]) (Ev.now _)
        · intro i hi h
          exact Ev.step (fun k => by rw [spec_AddStuff.l0, if_pos (by omega), if_pos (by omega), if_neg (fun h => by have := (isst i).1 h; rw [hno i hi] at this; cases this), wrap_id ((i : Int) + 1) (by omega) (by omega)]) h
      · obtain ⟨k1, k2⟩ := hfo.2 (by omega)
        have hb2 := h6 f.toNat k1
        have only : ∀ i, i < l.length → (isSt t (l.getD i z43) = true ↔ i = f.toNat) := fun i hi => by
          constructor
          · intro h
            refine rcp_ne l h1 i f.toNat hi k1 ?_
            rw [of_decide_eq_true h, of_decide_eq_true k2]
          · rintro rfl; exact k2
        obtain ⟨V, hV⟩ : ∃ V, V = s.set f.toNat (s.getD f.toNat 0 + g) := ⟨_, rfl⟩
        have hVl : V.length = s.length := by rw [hV, List.length_set]
        have hok : okBath l a b c V = rng (s.getD f.toNat 0 + g) 0 50000 := by rw [hV]; exact okBath_set l a b c s f.toNat _ hb (by omega)
        obtain ⟨r, hr2, h⟩ := Ev.loopE (fun k i (q : Bool × List Int) => spec_AddStuff.l0 k l t g q.1 i a b c q.2) l.length (fun i q => q = if f.toNat < i then (true, V) else (false, s)) (fun r => r = if rng (s.getD f.toNat 0 + g) 0 50000 = true then (a, b, c, V, true) else (0, 0, 0, [], false))
          (fun q hq => by
            rw [if_pos k1] at hq
            subst hq
            refine ⟨_, rfl, ?_⟩
            refine Ev.step (fun k => by rw [spec_AddStuff.l0, if_neg (by omega), if_pos rfl]) (Ev.bind (l7Bath_ev l a b c V hl hz (by omega)) ?_)
            rw [hok]
            cases rng (s.getD f.toNat 0 + g) 0 50000 with
            | true => simp only [if_true]; exact Ev.now _
            | false => simp only [Bool.false_eq_true, if_false]; exact Ev.now _)
          (fun i q hi hq => by
            refine ⟨if f.toNat < i + 1 then (true, V) else (false, s), rfl, fun r h => Ev.step (fun k => ?_) h⟩
            by_cases e : i = f.toNat
            · rw [if_neg (by omega)] at hq
              subst hq
              rw [if_pos (by omega)]
              dsimp only
              rw [spec_AddStuff.l0, if_pos (by omega), if_pos (by omega), if_pos ((isst i).2 ((only i hi).2 e)), if_pos (by omega), wrap_id ((i : Int) + 1) (by omega) (by omega)]
              show spec_AddStuff.l0 k l t g true ((i : Int) + 1) a b c (s.set i (wrap64 (s.getD i 0 + g))) = _
              rw [e, wrap_id (s.getD f.toNat 0 + g) (by omega) (by omega), hV]
            · have hq' : q = if f.toNat < i + 1 then (true, V) else (false, s) := by
                rw [hq]
                by_cases e2 : f.toNat < i
                · rw [if_pos e2, if_pos (by omega)]
                · rw [if_neg e2, if_neg (by omega)]
              rw [← hq', spec_AddStuff.l0, if_pos (by omega), if_pos (by omega), if_neg (fun h => e ((only i hi).1 ((isst i).1 h))), wrap_id ((i : Int) + 1) (by omega) (by omega)]) (false, s) (by rw [if_neg (by omega)])
        subst hr2
        by_cases c1 : s.getD f.toNat 0 + g ≤ 50000
        · rw [if_pos ((rng_iff _ _ _).2 ⟨by omega, c1⟩)] at h
          rw [addV_yes l a b c s t g (by rw [← hf]; exact ⟨hb, by omega, hg, c1⟩), ← hf, ← hV]
          exact h
        · rw [if_neg (fun h => c1 ((rng_iff _ _ _).1 h).2)] at h
          rw [addV_no l a b c s t g (fun h => by rw [← hf] at h; exact c1 h.2.2.2)]
          exact h
theorem rInts_ev (l : List Int) (hl : l.length ≤ 1000) : Ev (fun k => laws_rInts.f k l l) true := by
  refine Ev.congr (f := fun k => laws_rInts.l0 k l l 0) (fun k => by unfold laws_rInts.f; rw [if_pos rfl]) ?_
  obtain ⟨r, hr, h⟩ := Ev.loopE (fun k i (_ : Unit) => laws_rInts.l0 k l l i) l.length (fun _ _ => True) (fun r => r = true)
    (fun s _ => ⟨true, rfl, Ev.step (f := fun _ => some true) (fun k => by rw [laws_rInts.l0, if_neg (by omega)]) (Ev.now true)⟩)
    (fun i s hi _ => ⟨(), trivial, fun r h => Ev.step (fun k => by rw [laws_rInts.l0, if_pos (by omega), if_pos (by omega), if_pos (by omega), if_pos rfl, wrap_id _ (by omega) (by omega)]) h⟩) () trivial
  subst hr
  exact h
theorem rBath_ev (p q r : Int) (u : List Int) (hu : u.length ≤ 1000) : Ev (fun k => laws_rBath.f k p q r u p q r u) true := by
  unfold laws_rBath.f
  simp only [eq_self_iff_true, if_true]
  exact Ev.bind (rInts_ev u hu) (Ev.now _)
theorem okBath_c (l : List DPt) (a b c y : Int) (s : List Int) (h : okBath l a b c s = true) (hy : 0 ≤ y ∧ y ≤ 50000) : okBath l a b y s = true := by
  unfold okBath at h ⊢
  simp only [Bool.and_eq_true, rng_iff] at h ⊢
  exact ⟨h.1, h.2.1, h.2.2.1, hy, h.2.2.2.2⟩
theorem dye_len (l : List DPt) (a b c : Int) (s : List Int) (hl : l.length ≤ 100) : (dyeV l a b c s).2.2.2.1.length ≤ 100 := by
  unfold dyeV
  split
  · split
    · show (dyeL l s c).length ≤ 100
      rw [dyeL_len]; exact hl
    · exact Nat.zero_le _
  · exact Nat.zero_le _
theorem need_len (l : List DPt) (y : Int) (hl : l.length ≤ 100) : (needV l y).1.length ≤ 100 := by
  unfold needV
  split
  · split
    · show (ndl l y).length ≤ 100
      unfold ndl; rw [List.length_map]; exact hl
    · exact Nat.zero_le _
  · exact Nat.zero_le _
theorem add_len (l : List DPt) (a b c : Int) (s : List Int) (t : ByteArray) (g : Int) (hs : s.length ≤ 100) : (addV l a b c s t g).2.2.2.1.length ≤ 100 := by
  unfold addV
  split
  · show (s.set _ _).length ≤ 100
    rw [List.length_set]; exact hs
  · exact Nat.zero_le _
theorem ready_is (l : List DPt) (a b c : Int) (s : List Int) : (dyeV l a b c s).2.2.2.2 = (isReadyV l a b c s).1 ∧ (isReadyV l a b c s).2 = okBath l a b c s := by
  unfold dyeV isReadyV
  cases okBath l a b c s with
  | false => exact ⟨rfl, rfl⟩
  | true => cases rdyV l a b c s <;> exact ⟨rfl, rfl⟩
theorem dye_yes (l : List DPt) (a b c : Int) (s : List Int) (h : (dyeV l a b c s).2.2.2.2 = true) : okBath l a b c s = true ∧ rdyV l a b c s = true := by
  unfold dyeV at h
  cases hb : okBath l a b c s with
  | false => rw [hb] at h; cases h
  | true =>
    cases hr : rdyV l a b c s with
    | false => rw [hb, hr] at h; cases h
    | true => exact ⟨rfl, rfl⟩
theorem dye_most (l : List DPt) (a b c : Int) (s : List Int) (h : (dyeV l a b c s).2.2.2.2 = true) : (mostV l a b c s).2 = true ∧ ¬ (mostV l a b c s).1 < c := by
  obtain ⟨h1, h2⟩ := dye_yes l a b c s h
  unfold rdyV at h2
  rw [Bool.and_eq_true, decide_eq_true_iff] at h2
  unfold mostV
  rw [if_pos h1, if_pos h2.1]
  exact ⟨rfl, by show ¬ mst l s a l.length < c; omega⟩
theorem most_tight (l : List DPt) (a b c : Int) (s : List Int) (h : (mostV l a b c s).2 = true) : isReadyV l a b (mostV l a b c s).1 s = (true, true) ∧ (isReadyV l a b ((mostV l a b c s).1 + 1) s).1 = false ∧ 0 ≤ (mostV l a b c s).1 ∧ (mostV l a b c s).1 ≤ 50000 := by
  unfold mostV at h ⊢
  cases hb : okBath l a b c s with
  | false => rw [hb] at h; cases h
  | true =>
    cases hw : rng b 60 95 with
    | false => rw [hb, hw] at h; cases h
    | true =>
      rw [if_pos rfl, if_pos rfl]
      have hm := mst_nonneg l a b c s hb
      refine ⟨?_, ?_, hm⟩
      · unfold isReadyV rdyV
        rw [if_pos (okBath_c l a b c _ s hb hm), hw, decide_eq_true (Int.le_refl _)]
        rfl
      · unfold isReadyV rdyV
        split
        · show (rng b 60 95 && decide (mst l s a l.length + 1 ≤ mst l s a l.length)) = false
          rw [decide_eq_false (by omega), Bool.and_false]
        · rfl
theorem add_back (l : List DPt) (a b c : Int) (s : List Int) (h : (dyeV l a b c s).2.2.2.2 = true) (i : Nat) (hi : i < l.length) : (addV l (dyeV l a b c s).1 (dyeV l a b c s).2.1 (dyeV l a b c s).2.2.1 (dyeV l a b c s).2.2.2.1 (l.getD i z43).f0 ((needV l c).1.getD i 0)).2.2.2.2 = true ∧ (addV l (dyeV l a b c s).1 (dyeV l a b c s).2.1 (dyeV l a b c s).2.2.1 (dyeV l a b c s).2.2.2.1 (l.getD i z43).f0 ((needV l c).1.getD i 0)).2.2.2.1.length = l.length ∧ (addV l (dyeV l a b c s).1 (dyeV l a b c s).2.1 (dyeV l a b c s).2.2.1 (dyeV l a b c s).2.2.2.1 (l.getD i z43).f0 ((needV l c).1.getD i 0)).2.2.2.1.getD i 0 = s.getD i 0 ∧ i < s.length ∧ i < (needV l c).1.length := by
  obtain ⟨h1, h2⟩ := dye_yes l a b c s h
  obtain ⟨k1, k2, k3, k4, k5, k6⟩ := okBath_iff l a b c s h1
  have ed : dyeV l a b c s = (a, b, 0, dyeL l s c, true) := by unfold dyeV; rw [if_pos h1, if_pos h2]
  have en : needV l c = (ndl l c, true) := by unfold needV; rw [if_pos k1, if_pos ((rng_iff _ _ _).2 k4)]
  rw [ed, en]
  dsimp only
  have hb := nd_bound l a b c s h1 i hi
  have hs := k6 i hi
  have hlen : (ndl l c).length = l.length := by unfold ndl; rw [List.length_map]
  have hdl := dyeL_len l s c
  have hfi : findI (isSt (l.getD i z43).f0) l = (i : Int) := findI_hit _ z43 l i hi (fun j hj => decide_eq_false (fun e => by have := rcp_ne l k1 j i (by omega) hi e; omega)) (decide_eq_true rfl)
  have hok : okBath l a b 0 (dyeL l s c) = true := by
    unfold okBath at h1 ⊢
    simp only [Bool.and_eq_true, rng_iff, beq_iff_eq] at h1 ⊢
    refine ⟨h1.1, h1.2.1, h1.2.2.1, by omega, by omega, ?_⟩
    rw [all_getD 0]
    intro j hj
    rw [dyeL_len] at hj
    rw [dyeL_getD l s c j hj, rng_iff]
    unfold dy1
    have b1 := nd_bound l a b c s (by unfold okBath; simp only [Bool.and_eq_true, rng_iff, beq_iff_eq]; exact h1) j hj
    have b2 := k6 j hj
    have b3 := rdy_enough l a b c s (by unfold okBath; simp only [Bool.and_eq_true, rng_iff, beq_iff_eq]; exact h1) h2 j hj
    omega
  have hsum : (dyeL l s c).getD i 0 + (ndl l c).getD i 0 = s.getD i 0 := by rw [dyeL_getD l s c i hi]; unfold dy1; omega
  rw [addV_yes l a b 0 (dyeL l s c) _ _ (by rw [hfi, Int.toNat_natCast, hsum, rng_iff]; exact ⟨hok, by omega, hb, hs.2⟩), hfi, Int.toNat_natCast, hsum]
  refine ⟨rfl, by show ((dyeL l s c).set i _).length = _; rw [List.length_set, hdl], ?_, by omega, by omega⟩
  show ((dyeL l s c).set i (s.getD i 0)).getD i 0 = _
  rw [getD_set, if_pos ⟨rfl, by omega⟩]
theorem low8 (y : Int) : 0 ≤ Go.bits .and .u64 y 255 ∧ Go.bits .and .u64 y 255 ≤ 255 := by
  have h : ((BitVec.ofInt 64 y) &&& (BitVec.ofInt 64 255)).toNat ≤ 255 := by
    rw [BitVec.toNat_and]
    exact Nat.le_trans Nat.and_le_right (by decide)
  have e : Go.bits .and .u64 y 255 = IntKind.u64.wrap ((((BitVec.ofInt 64 y) &&& (BitVec.ofInt 64 255)).toNat : Nat) : Int) := rfl
  have e2 : ∀ n : Nat, n ≤ 255 → IntKind.u64.wrap (n : Int) = (n : Int) := fun n hn => by
    show (n : Int) % 18446744073709551616 = (n : Int)
    omega
  rw [e, e2 _ h]
  omega
def codeOk (code : List Int) : Prop := code.length ≤ 70000 ∧ ∀ i : Int, 0 ≤ rd code i ∧ rd code i ≤ 255
theorem codeOk_of (code : List Int) (hl : code.length ≤ 70000) (h : ∀ x ∈ code, (Lit.int .u8 x).wf = true) : codeOk code := by
  refine ⟨hl, fun i => ?_⟩
  unfold rd
  rw [List.getD_eq_getElem?_getD]
  by_cases c : i.toNat < code.length
  · rw [List.getElem?_eq_getElem c]
    have := h _ (List.getElem_mem c)
    have h3 : (decide (IntKind.u8.min ≤ code[i.toNat]) && decide (code[i.toNat] ≤ IntKind.u8.max)) = true := this
    rw [Bool.and_eq_true, decide_eq_true_iff, decide_eq_true_iff, show IntKind.u8.min = 0 by decide, show IntKind.u8.max = 255 by decide] at h3
    exact h3
  · rw [List.getElem?_eq_none (by omega)]
    exact ⟨by decide, by decide⟩
theorem next_ok (code : List Int) (hc : codeOk code) (at_ seed : Int) (h0 : 0 ≤ at_) (h1 : at_ ≤ 1000000) : ∃ x s, spec_l1Cur_next.f code at_ seed = some (x, at_ + 1, s) ∧ 0 ≤ x ∧ x ≤ 255 := by
  have hw : wrap64 (at_ + 1) = at_ + 1 := wrap_id _ (by omega) (by omega)
  have hb := hc.2 at_
  unfold spec_l1Cur_next.f
  rw [hw]
  by_cases c : at_ < (code.length : Int)
  · rw [if_pos c, if_pos h0, if_pos (by omega)]
    exact ⟨_, _, rfl, by rw [wrap_id _ (by omega) (by omega)]; exact hb⟩
  · rw [if_neg c, if_neg (by omega)]
    refine ⟨_, _, rfl, ?_⟩
    have := low8 ((IntKind.u64.wrap ((IntKind.u64.wrap ((IntKind.u64.wrap (seed * 6364136223846793005)))) + 102323)) / 1099511627776)
    rw [wrap_id _ (by omega) (by omega)]
    exact this
theorem pick_ok (code : List Int) (hc : codeOk code) (at_ seed n : Int) (h0 : 0 ≤ at_) (h1 : at_ ≤ 900000) (hn : n ≤ 1000000) : ∃ x a s, spec_l1Cur_pick.f code at_ seed n = some (x, a, s) ∧ 0 ≤ x ∧ (x < n ∨ x = 0) ∧ at_ ≤ a ∧ a ≤ at_ + 2 := by
  unfold spec_l1Cur_pick.f
  by_cases c : n ≤ 1
  · exact ⟨0, at_, seed, by rw [if_pos c], by omega, .inr rfl, by omega, by omega⟩
  · rw [if_neg c]
    obtain ⟨x, s, e, x0, x1⟩ := next_ok code hc at_ seed h0 (by omega)
    rw [e, Option.bind_some]
    dsimp only
    by_cases c2 : n > 200
    · rw [if_pos c2]
      obtain ⟨y, s2, e2, y0, y1⟩ := next_ok code hc (at_ + 1) s (by omega) (by omega)
      rw [e2, Option.bind_some, if_neg (by omega)]
      dsimp only
      rw [wrap_id (x * 256) (by omega) (by omega), wrap_id (x * 256 + y) (by omega) (by omega)]
      exact ⟨_, _, _, rfl, Int.tmod_nonneg _ (by omega), .inl (Int.tmod_lt_of_pos _ (by omega)), by omega, by omega⟩
    · rw [if_neg c2, if_neg (by omega)]
      exact ⟨_, _, _, rfl, Int.tmod_nonneg _ x0, .inl (Int.tmod_lt_of_pos _ (by omega)), by omega, by omega⟩
theorem one_ok (code : List Int) (hc : codeOk code) (at_ seed n : Int) (h0 : 0 ≤ at_) (h1 : at_ ≤ 900000) (hn : n ≤ 1000000) : ∃ x a s, spec_l1Cur_one.f code at_ seed n = some (x, a, s) ∧ at_ ≤ a ∧ a ≤ at_ + 2 := by
  unfold spec_l1Cur_one.f
  obtain ⟨x, a, s, e, _, _, a0, a1⟩ := pick_ok code hc at_ seed n h0 h1 hn
  rw [e, Option.bind_some]
  exact ⟨_, a, s, rfl, a0, a1⟩
theorem of_ok (code : List Int) (hc : codeOk code) (at_ seed : Int) (l : List ByteArray) (hl : 0 < l.length ∧ l.length ≤ 1000) (h0 : 0 ≤ at_) (h1 : at_ ≤ 900000) : ∃ x a s, spec_l1Cur_of.f code at_ seed l = some (x, a, s) ∧ x ∈ l ∧ at_ ≤ a ∧ a ≤ at_ + 2 := by
  unfold spec_l1Cur_of.f
  obtain ⟨x, a, s, e, x0, x1, a0, a1⟩ := pick_ok code hc at_ seed (l.length : Int) h0 h1 (by omega)
  rw [e, Option.bind_some]
  dsimp only
  have hx : x < (l.length : Int) := by omega
  rw [if_pos x0, if_pos hx]
  refine ⟨_, a, s, rfl, ?_, a0, a1⟩
  show l.getD x.toNat ByteArray.empty ∈ l
  rw [List.getD_eq_getElem?_getD, List.getElem?_eq_getElem (by omega)]
  exact List.getElem_mem (by omega)
theorem among_ok (code : List Int) (hc : codeOk code) (at_ seed : Int) (l : List Int) (hl : 0 < l.length ∧ l.length ≤ 1000) (h0 : 0 ≤ at_) (h1 : at_ ≤ 900000) : ∃ x a s, spec_l1Cur_among.f code at_ seed l = some (x, a, s) ∧ x ∈ l ∧ at_ ≤ a ∧ a ≤ at_ + 2 := by
  unfold spec_l1Cur_among.f
  obtain ⟨x, a, s, e, x0, x1, a0, a1⟩ := pick_ok code hc at_ seed (l.length : Int) h0 h1 (by omega)
  rw [e, Option.bind_some]
  dsimp only
  have hx : x < (l.length : Int) := by omega
  rw [if_pos x0, if_pos hx]
  refine ⟨_, a, s, rfl, ?_, a0, a1⟩
  show l.getD x.toNat 0 ∈ l
  rw [List.getD_eq_getElem?_getD, List.getElem?_eq_getElem (by omega)]
  exact List.getElem_mem (by omega)
def szR (n : Nat) (l : List DPt) : Prop := l.length ≤ n ∧ ∀ x ∈ l, x.f0.size ≤ 100
theorem szR_add (n : Nat) (l : List DPt) (x : DPt) (h : szR n l) (hx : x.f0.size ≤ 100) : szR (n + 1) (l ++ [x]) := by
  refine ⟨by rw [List.length_append, List.length_singleton]; have := h.1; omega, fun y hy => ?_⟩
  rcases List.mem_append.1 hy with hy | hy
  · exact h.2 y hy
  · rw [List.mem_singleton.1 hy]; exact hx
theorem szR_set (n : Nat) (l : List DPt) (i : Nat) (x : DPt) (h : szR n l) (hx : x.f0.size ≤ 100) : szR n (l.set i x) := by
  refine ⟨by rw [List.length_set]; exact h.1, fun y hy => ?_⟩
  rcases List.mem_or_eq_of_mem_set hy with hy | hy
  · exact h.2 y hy
  · rw [hy]; exact hx
theorem szR_le (n m : Nat) (l : List DPt) (h : szR n l) (hm : n ≤ m) : szR m l := ⟨Nat.le_trans h.1 hm, h.2⟩
theorem recipe_l1 (code : List Int) (hc : codeOk code) (d : Nat) : ∀ (i : Nat) (at_ seed : Int) (xs : List DPt), i + d = 8 → xs.length = i → szR 12 xs → 0 ≤ at_ → at_ + 2 * (d : Int) ≤ 90000 → ∃ (ys : List DPt) (a s : Int), szR 12 ys ∧ (0 ≤ a ∧ a ≤ 90010) ∧ Ev (fun k => spec_l1Cur_recipe.l1 k xs (i : Int) code at_ seed) (ys, a, s) := by
  induction d with
  | zero =>
    intro i at_ seed xs hi hx hz a0 a1
    obtain ⟨y, b, t, e, y0, y1, u, v⟩ := pick_ok code hc at_ seed 2 a0 (by omega) (by omega)
    refine ⟨xs, b, t, hz, ⟨by omega, by omega⟩, Ev.step (f := fun _ => some (xs, b, t)) (fun k => ?_) (Ev.now _)⟩
    rw [spec_l1Cur_recipe.l1, e, Option.bind_some]
    dsimp only
    rw [wrap_id (6 + y) (by omega) (by omega), if_neg (by omega)]
  | succ d ih =>
    intro i at_ seed xs hi hx hz a0 a1
    obtain ⟨y, b, t, e, y0, y1, u, v⟩ := pick_ok code hc at_ seed 2 a0 (by omega) (by omega)
    by_cases c : (i : Int) < 6 + y
    · obtain ⟨ys, a, s, z1, z2, z3⟩ := ih (i + 1) b t (xs ++ [⟨strOfNums [wrap64 (97 + (i : Int)) % 256], 5⟩]) (by omega) (by rw [List.length_append, List.length_singleton]; omega) (by
        have := szR_add 11 xs ⟨strOfNums [wrap64 (97 + (i : Int)) % 256], 5⟩ ⟨by omega, hz.2⟩ (by show (strOfNums _).size ≤ 100; rw [strOfNums_size, List.length_singleton]; omega)
        exact this) (by omega) (by omega)
      refine ⟨ys, a, s, z1, z2, Ev.step (fun k => ?_) z3⟩
      rw [spec_l1Cur_recipe.l1, e, Option.bind_some]
      dsimp only
      rw [wrap_id (6 + y) (by omega) (by omega), if_pos c, if_pos (by omega), wrap_id ((i : Int) + 1) (by omega) (by omega)]
      rfl
    · refine ⟨xs, b, t, hz, ⟨by omega, by omega⟩, Ev.step (f := fun _ => some (xs, b, t)) (fun k => ?_) (Ev.now _)⟩
      rw [spec_l1Cur_recipe.l1, e, Option.bind_some]
      dsimp only
      rw [wrap_id (6 + y) (by omega) (by omega), if_neg c]
def badL : List ByteArray := [(⟨#[]⟩ : ByteArray), (⟨#[65]⟩ : ByteArray), (⟨#[122, 105, 110, 99]⟩ : ByteArray)]
theorem bad_size : ∀ x ∈ badL, x.size ≤ 10 := by decide
theorem recipe_j2 (code : List Int) (hc : codeOk code) (at_ seed : Int) (xs : List DPt) (hz : szR 6 xs) (a0 : 0 ≤ at_) (a1 : at_ ≤ 50000) : ∃ (ys : List DPt) (a s : Int), szR 12 ys ∧ (0 ≤ a ∧ a ≤ 90010) ∧ Ev (fun k => spec_l1Cur_recipe.j2 k xs code at_ seed) (ys, a, s) := by
  have hz' := szR_le 6 12 xs hz (by omega)
  by_cases h0 : (xs.length : Int) = 0
  · exact ⟨xs, at_, seed, hz', ⟨by omega, by omega⟩, Ev.step (f := fun _ => some (xs, at_, seed)) (fun k => by rw [spec_l1Cur_recipe.j2, if_pos h0]) (Ev.now _)⟩
  · have hl := hz.1
    obtain ⟨x, b1, s1, e1, x0, x1, u1, v1⟩ := pick_ok code hc at_ seed (xs.length : Int) a0 (by omega) (by omega)
    obtain ⟨y, b2, s2, e2, y0, y1, u2, v2⟩ := pick_ok code hc b1 s1 40 (by omega) (by omega) (by omega)
    have hxl : x < (xs.length : Int) := by omega
    have hmem : rd_T43 xs x ∈ xs := getD_mem z43 xs x.toNat (by omega)
    have hxs := hz.2 _ hmem
    by_cases c0 : y = 0
    · obtain ⟨w, b3, s3, e3, m3, u3, v3⟩ := of_ok code hc b2 s2 badL (by decide) (by omega) (by omega)
      unfold badL at e3
      refine ⟨xs.set x.toNat ⟨w, (rd_T43 xs x).f1⟩, b3, s3, szR_set 12 xs _ _ hz' (by have := bad_size w m3; show w.size ≤ 100; omega), ⟨by omega, by omega⟩, Ev.step (f := fun _ => some (xs.set x.toNat ⟨w, (rd_T43 xs x).f1⟩, b3, s3)) (fun k => ?_) (Ev.now _)⟩
      rw [spec_l1Cur_recipe.j2, if_neg h0, e1, Option.bind_some]
      dsimp only
      rw [if_pos x0, if_pos hxl, e2, Option.bind_some]
      dsimp only
      rw [if_pos c0, e3, Option.bind_some]
    · by_cases c1 : y = 1
      · obtain ⟨w, b3, s3, e3, m3, u3, v3⟩ := among_ok code hc b2 s2 [0, 1001] (by decide) (by omega) (by omega)
        refine ⟨xs.set x.toNat ⟨(rd_T43 xs x).f0, w⟩, b3, s3, szR_set 12 xs _ _ hz' hxs, ⟨by omega, by omega⟩, Ev.step (f := fun _ => some (xs.set x.toNat ⟨(rd_T43 xs x).f0, w⟩, b3, s3)) (fun k => ?_) (Ev.now _)⟩
        rw [spec_l1Cur_recipe.j2, if_neg h0, e1, Option.bind_some]
        dsimp only
        rw [if_pos x0, if_pos hxl, e2, Option.bind_some]
        dsimp only
        rw [if_neg c0, if_pos c1, e3, Option.bind_some]
      · by_cases c2 : y = 2
        · obtain ⟨ys, a, s, z1, z2, z3⟩ := recipe_l1 code hc 8 0 b2 s2 [] (by omega) rfl ⟨by rw [List.length_nil]; omega, fun x hx => absurd hx (List.not_mem_nil)⟩ (by omega) (by omega)
          refine ⟨ys, a, s, z1, z2, Ev.step (fun k => ?_) z3⟩
          rw [spec_l1Cur_recipe.j2, if_neg h0, e1, Option.bind_some]
          dsimp only
          rw [if_pos x0, if_pos hxl, e2, Option.bind_some]
          dsimp only
          rw [if_neg c0, if_neg c1, if_pos c2]
          rfl
        · refine ⟨xs.set x.toNat ⟨(rd_T43 xs x).f0, (rd_T43 xs x).f1⟩, b2, s2, szR_set 12 xs _ _ hz' hxs, ⟨by omega, by omega⟩, Ev.step (f := fun _ => some (xs.set x.toNat ⟨(rd_T43 xs x).f0, (rd_T43 xs x).f1⟩, b2, s2)) (fun k => ?_) (Ev.now _)⟩
          rw [spec_l1Cur_recipe.j2, if_neg h0, e1, Option.bind_some]
          dsimp only
          rw [if_pos x0, if_pos hxl, e2, Option.bind_some]
          dsimp only
          rw [if_neg c0, if_neg c1, if_neg c2]
theorem recipe_j1 (code : List Int) (hc : codeOk code) (at_ seed : Int) (xs : List DPt) (o : Bool) (hz : szR 5 xs) (a0 : 0 ≤ at_) (a1 : at_ ≤ 50000) : ∃ (ys : List DPt) (a s : Int), szR 12 ys ∧ (0 ≤ a ∧ a ≤ 90010) ∧ Ev (fun k => spec_l1Cur_recipe.j1 k xs o code at_ seed) (ys, a, s) := by
  cases o with
  | false =>
    obtain ⟨ys, a, s, z1, z2, z3⟩ := recipe_j2 code hc at_ seed xs (szR_le 5 6 xs hz (by omega)) a0 a1
    exact ⟨ys, a, s, z1, z2, Ev.step (fun k => by rw [spec_l1Cur_recipe.j1, if_neg Bool.false_ne_true]) z3⟩
  | true =>
    have hl := hz.1
    obtain ⟨ys, a, s, z1, z2, z3⟩ := recipe_j2 code hc at_ seed (xs ++ [⟨(⟨#[97, 108, 117, 109]⟩ : ByteArray), 100⟩]) (szR_add 5 xs _ hz (by show (⟨#[97, 108, 117, 109]⟩ : ByteArray).size ≤ 100; decide)) a0 a1
    exact ⟨ys, a, s, z1, z2, Ev.step (fun k => by rw [spec_l1Cur_recipe.j1, if_pos rfl, if_pos (by omega)]) z3⟩
def dyesL : List ByteArray := [(⟨#[97, 108, 117, 109]⟩ : ByteArray), (⟨#[105, 110, 100, 105, 103, 111]⟩ : ByteArray), (⟨#[108, 105, 109, 101]⟩ : ByteArray), (⟨#[109, 97, 100, 100, 101, 114]⟩ : ByteArray), (⟨#[119, 101, 108, 100]⟩ : ByteArray)]
theorem dyes_size : ∀ x ∈ dyesL, x.size ≤ 10 := by decide
theorem recipe_l0 (code : List Int) (hc : codeOk code) (d : Nat) : ∀ (i : Nat) (at_ seed : Int) (xs : List DPt), i + d = 5 → szR i xs → 0 ≤ at_ → at_ + 4 * (d : Int) ≤ 49000 → ∃ (ys : List DPt) (a s : Int), szR 12 ys ∧ (0 ≤ a ∧ a ≤ 90010) ∧ Ev (fun k => spec_l1Cur_recipe.l0 k xs dyesL (i : Int) code at_ seed) (ys, a, s) := by
  have hdl : dyesL.length = 5 := rfl
  induction d with
  | zero =>
    intro i at_ seed xs hi hz a0 a1
    by_cases h0 : (xs.length : Int) = 0
    · obtain ⟨o, b, t, e, u, v⟩ := one_ok code hc at_ seed 6 a0 (by omega) (by omega)
      obtain ⟨ys, a, s, z1, z2, z3⟩ := recipe_j1 code hc b t xs (!o) (szR_le i 5 xs hz (by omega)) (by omega) (by omega)
      refine ⟨ys, a, s, z1, z2, Ev.step (fun k => ?_) z3⟩
      rw [spec_l1Cur_recipe.l0, hdl, if_neg (by omega), if_pos h0, e, Option.bind_some]
    · obtain ⟨ys, a, s, z1, z2, z3⟩ := recipe_j1 code hc at_ seed xs false (szR_le i 5 xs hz (by omega)) (by omega) (by omega)
      refine ⟨ys, a, s, z1, z2, Ev.step (fun k => ?_) z3⟩
      rw [spec_l1Cur_recipe.l0, hdl, if_neg (by omega), if_neg h0]
  | succ d ih =>
    intro i at_ seed xs hi hz a0 a1
    have hl := hz.1
    obtain ⟨o, b, t, e, u, v⟩ := one_ok code hc at_ seed 2 a0 (by omega) (by omega)
    cases o with
    | false =>
      obtain ⟨ys, a, s, z1, z2, z3⟩ := ih (i + 1) b t xs (by omega) (szR_le i (i + 1) xs hz (by omega)) (by omega) (by omega)
      refine ⟨ys, a, s, z1, z2, Ev.step (fun k => ?_) z3⟩
      rw [spec_l1Cur_recipe.l0, hdl, if_pos (by omega), e, Option.bind_some]
      dsimp only
      rw [if_neg Bool.false_ne_true, wrap_id ((i : Int) + 1) (by omega) (by omega)]
      rfl
    | true =>
      obtain ⟨w, b2, t2, e2, m2, u2, v2⟩ := among_ok code hc b t [1, 50, 333, 1000] (by decide) (by omega) (by omega)
      have hm : rdOf ByteArray.empty dyesL (i : Int) ∈ dyesL := by
        show dyesL.getD i ByteArray.empty ∈ dyesL
        rw [List.getD_eq_getElem?_getD, List.getElem?_eq_getElem (by omega)]
        exact List.getElem_mem (by omega)
      obtain ⟨ys, a, s, z1, z2, z3⟩ := ih (i + 1) b2 t2 (xs ++ [⟨rdOf ByteArray.empty dyesL (i : Int), w⟩]) (by omega) (szR_add i xs _ hz (by have := dyes_size _ hm; show (rdOf ByteArray.empty dyesL (i : Int)).size ≤ 100; omega)) (by omega) (by omega)
      refine ⟨ys, a, s, z1, z2, Ev.step (fun k => ?_) z3⟩
      rw [spec_l1Cur_recipe.l0, hdl, if_pos (by omega), e, Option.bind_some]
      dsimp only
      rw [if_pos rfl, if_pos (by omega), e2, Option.bind_some]
      dsimp only
      rw [if_pos (by omega), wrap_id ((i : Int) + 1) (by omega) (by omega)]
      rfl
theorem recipe_ok (code : List Int) (hc : codeOk code) (at_ seed : Int) (a0 : 0 ≤ at_) (a1 : at_ ≤ 40000) : ∃ (ys : List DPt) (a s : Int), szR 12 ys ∧ (0 ≤ a ∧ a ≤ 90010) ∧ Ev (fun k => spec_l1Cur_recipe.f k code at_ seed) (ys, a, s) := by
  obtain ⟨ys, a, s, z1, z2, z3⟩ := recipe_l0 code hc 5 0 at_ seed [] (by omega) ⟨Nat.le_refl _, fun x hx => absurd hx (List.not_mem_nil)⟩ a0 (by omega)
  exact ⟨ys, a, s, z1, z2, z3⟩
theorem cut_ok (code : List Int) (hc : codeOk code) (at_ seed : Int) (y : List Int) (b : Int) (hb : 1 ≤ b ∧ b + 2 ≤ (y.length : Int)) (hy : y.length ≤ 1000) (h0 : 0 ≤ at_) (h1 : at_ ≤ 800000) : ∃ x a s v c t, spec_l1Cur_pick.f code at_ seed 24 = some (x, a, s) ∧ wrap64 (b + wrap64 (Int.tdiv x 11)) = c ∧ 0 ≤ c ∧ c ≤ (y.length : Int) ∧ (∃ a2, spec_l1Cur_among.f code a s (y.take c.toNat) = some (v, a2, t) ∧ at_ ≤ a2 ∧ a2 ≤ at_ + 4) := by
  obtain ⟨x, a, s, e, x0, x1, a0, a1⟩ := pick_ok code hc at_ seed 24 h0 (by omega) (by omega)
  have hd0 : 0 ≤ Int.tdiv x 11 := Int.tdiv_nonneg x0 (by decide)
  have hd1 : Int.tdiv x 11 ≤ 2 := by
    rw [Int.tdiv_eq_ediv_of_nonneg x0]
    omega
  have ew : wrap64 (b + wrap64 (Int.tdiv x 11)) = b + Int.tdiv x 11 := by
    rw [wrap_id (Int.tdiv x 11) (by omega) (by omega), wrap_id _ (by omega) (by omega)]
  have hlen : (y.take (b + Int.tdiv x 11).toNat).length = (b + Int.tdiv x 11).toNat := by rw [List.length_take]; omega
  obtain ⟨v, a2, t, e2, _, b0, b1⟩ := among_ok code hc a s (y.take (b + Int.tdiv x 11).toNat) ⟨by omega, by omega⟩ (by omega) (by omega)
  exact ⟨x, a, s, v, b + Int.tdiv x 11, t, e, ew, by omega, by omega, a2, e2, by omega, by omega⟩
theorem bath_l0 (code : List Int) (hc : codeOk code) (l : List DPt) (hl : l.length ≤ 12) (A B C : Int) (d : Nat) : ∀ (i : Nat) (at_ seed : Int) (ss : List Int), i + d = l.length → ss.length = i → 0 ≤ at_ → at_ + 2 * (d : Int) ≤ 200000 → ∃ (a b c : Int) (s : List Int) (p q : Int), s.length ≤ 13 ∧ (0 ≤ p ∧ p ≤ 200010) ∧ Ev (fun k => spec_l1Cur_bath.l0 k l (i : Int) code at_ seed A B C ss) (a, b, c, s, p, q) := by
  induction d with
  | zero =>
    intro i at_ seed ss hi hs a0 a1
    obtain ⟨y, b1, s1, e1, y0, y1, u1, v1⟩ := pick_ok code hc at_ seed 50 a0 (by omega) (by omega)
    have start : ∀ (k : Nat) {R : Option (Int × Int × Int × List Int × Int × Int)}, (if y = 0 then ((spec_l1Cur_among.f code b1 s1 (([0, 501] : List Int))).bind fun bt214 => (some (bt214.1, B, C, ss, bt214.2.1, bt214.2.2))) else (if y = 1 then ((spec_l1Cur_among.f code b1 s1 (([(-1), 101] : List Int))).bind fun bt220 => (some (A, bt220.1, C, ss, bt220.2.1, bt220.2.2))) else (if y = 2 then ((spec_l1Cur_among.f code b1 s1 (([(-1), 50001] : List Int))).bind fun bt226 => (some (A, B, bt226.1, ss, bt226.2.1, bt226.2.2))) else (if y = 3 then (if ss.length < 17592186044416 then (some (A, B, C, (ss ++ [5]), b1, s1)) else (none)) else (if y = 4 then (if (ss.length : Int) > 0 then ((spec_l1Cur_among.f code b1 s1 (([(-1), 50001] : List Int))).bind fun bt235 => (if 0 < (ss.length : Int) then (some (A, B, C, (ss.set (0 : Int).toNat bt235.1), bt235.2.1, bt235.2.2)) else (none))) else (some (A, B, C, ss, b1, s1))) else (some (A, B, C, ss, b1, s1))))))) = R → spec_l1Cur_bath.l0 (k + 1) l (i : Int) code at_ seed A B C ss = R := fun k R h => by
      rw [spec_l1Cur_bath.l0, if_neg (by omega), e1, Option.bind_some]
      exact h
    by_cases c0 : y = 0
    · obtain ⟨w, b2, s2, e2, m2, u2, v2⟩ := among_ok code hc b1 s1 [0, 501] (by decide) (by omega) (by omega)
      exact ⟨w, B, C, ss, b2, s2, by omega, ⟨by omega, by omega⟩, Ev.step (f := fun _ => some (w, B, C, ss, b2, s2)) (fun k => start k (by rw [if_pos c0, e2, Option.bind_some])) (Ev.now _)⟩
    by_cases c1 : y = 1
    · obtain ⟨w, b2, s2, e2, m2, u2, v2⟩ := among_ok code hc b1 s1 [(-1), 101] (by decide) (by omega) (by omega)
      exact ⟨A, w, C, ss, b2, s2, by omega, ⟨by omega, by omega⟩, Ev.step (f := fun _ => some (A, w, C, ss, b2, s2)) (fun k => start k (by rw [if_neg c0, if_pos c1, e2, Option.bind_some])) (Ev.now _)⟩
    by_cases c2 : y = 2
    · obtain ⟨w, b2, s2, e2, m2, u2, v2⟩ := among_ok code hc b1 s1 [(-1), 50001] (by decide) (by omega) (by omega)
      exact ⟨A, B, w, ss, b2, s2, by omega, ⟨by omega, by omega⟩, Ev.step (f := fun _ => some (A, B, w, ss, b2, s2)) (fun k => start k (by rw [if_neg c0, if_neg c1, if_pos c2, e2, Option.bind_some])) (Ev.now _)⟩
    by_cases c3 : y = 3
    · exact ⟨A, B, C, ss ++ [5], b1, s1, by rw [List.length_append, List.length_singleton]; omega, ⟨by omega, by omega⟩, Ev.step (f := fun _ => some (A, B, C, ss ++ [5], b1, s1)) (fun k => start k (by rw [if_neg c0, if_neg c1, if_neg c2, if_pos c3, if_pos (by omega)])) (Ev.now _)⟩
    by_cases c4 : y = 4
    · by_cases h0 : (ss.length : Int) > 0
      · obtain ⟨w, b2, s2, e2, m2, u2, v2⟩ := among_ok code hc b1 s1 [(-1), 50001] (by decide) (by omega) (by omega)
        exact ⟨A, B, C, ss.set (0 : Int).toNat w, b2, s2, by rw [List.length_set]; omega, ⟨by omega, by omega⟩, Ev.step (f := fun _ => some (A, B, C, ss.set (0 : Int).toNat w, b2, s2)) (fun k => start k (by rw [if_neg c0, if_neg c1, if_neg c2, if_neg c3, if_pos c4, if_pos h0, e2, Option.bind_some, if_pos h0])) (Ev.now _)⟩
      · exact ⟨A, B, C, ss, b1, s1, by omega, ⟨by omega, by omega⟩, Ev.step (f := fun _ => some (A, B, C, ss, b1, s1)) (fun k => start k (by rw [if_neg c0, if_neg c1, if_neg c2, if_neg c3, if_pos c4, if_neg h0])) (Ev.now _)⟩
    · exact ⟨A, B, C, ss, b1, s1, by omega, ⟨by omega, by omega⟩, Ev.step (f := fun _ => some (A, B, C, ss, b1, s1)) (fun k => start k (by rw [if_neg c0, if_neg c1, if_neg c2, if_neg c3, if_neg c4])) (Ev.now _)⟩
  | succ d ih =>
    intro i at_ seed ss hi hs a0 a1
    obtain ⟨w, b2, s2, e2, m2, u2, v2⟩ := among_ok code hc at_ seed [0, 100, 334, 2000, 2000, 50000] (by decide) (by omega) (by omega)
    obtain ⟨a, b, c, s, p, q, z1, z2, z3⟩ := ih (i + 1) b2 s2 (ss ++ [w]) (by omega) (by rw [List.length_append, List.length_singleton]; omega) (by omega) (by omega)
    refine ⟨a, b, c, s, p, q, z1, z2, Ev.step (fun k => ?_) z3⟩
    rw [spec_l1Cur_bath.l0, if_pos (by omega), e2, Option.bind_some]
    dsimp only
    rw [if_pos (by omega), wrap_id ((i : Int) + 1) (by omega) (by omega)]
    rfl
theorem bath_ok (code : List Int) (hc : codeOk code) (l : List DPt) (hl : l.length ≤ 12) (at_ seed : Int) (a0 : 0 ≤ at_) (a1 : at_ ≤ 100000) : ∃ (a b c : Int) (s : List Int) (p q : Int), s.length ≤ 13 ∧ (0 ≤ p ∧ p ≤ 200010) ∧ Ev (fun k => spec_l1Cur_bath.f k code at_ seed l) (a, b, c, s, p, q) := by
  obtain ⟨x1, b1, s1, e1, _, u1, v1⟩ := among_ok code hc at_ seed [1, 20, 40, 100, 500] (by decide) a0 (by omega)
  obtain ⟨x2, b2, s2, e2, _, u2, v2⟩ := among_ok code hc b1 s1 [0, 60, 80, 80, 95, 96] (by decide) (by omega) (by omega)
  obtain ⟨x3, b3, s3, e3, _, u3, v3⟩ := among_ok code hc b2 s2 [0, 1, 1000, 1001, 2000, 50000] (by decide) (by omega) (by omega)
  obtain ⟨a, b, c, s, p, q, z1, z2, z3⟩ := bath_l0 code hc l hl x1 x2 x3 l.length 0 b3 s3 [] (by omega) rfl (by omega) (by omega)
  refine ⟨a, b, c, s, p, q, z1, z2, ?_⟩
  unfold spec_l1Cur_bath.f
  simp only [e1, e2, e3, Option.bind_some]
  exact z3
theorem drawDye (code : List Int) (hc : codeOk code) : ∃ (l : List DPt) (a b c : Int) (s : List Int), szR 12 l ∧ s.length ≤ 13 ∧ Ev (fun k => spec_DrawDyeYarn.f k code) (l, a, b, c, s) := by
  obtain ⟨l, p, q, h1, h2, h3⟩ := recipe_ok code hc 0 0 (by omega) (by omega)
  obtain ⟨a, b, c, s, p2, q2, g1, g2, g3⟩ := bath_ok code hc l h1.1 p q h2.1 (by omega)
  have d1 : Ev (fun k => spec_DrawIsBath.f k code) (l, a, b, c, s) := by
    unfold spec_DrawIsBath.f
    exact Ev.bind h3 (Ev.bind g3 (Ev.now _))
  refine ⟨l, a, b, c, s, h1, g1, ?_⟩
  unfold spec_DrawDyeYarn.f
  exact Ev.bind d1 (Ev.now _)
theorem yarn7_ok (code : List Int) (hc : codeOk code) (at_ seed : Int) (h0 : 0 ≤ at_) (h1 : at_ ≤ 800000) : ∃ v a s, spec_l1Cur_yarn7.f code at_ seed = some (v, a, s) ∧ at_ ≤ a ∧ a ≤ at_ + 4 := by
  obtain ⟨x, a, s3, w, c, t, e1, e2, c0, c1, a2, e3, u, v⟩ := cut_ok code hc at_ seed [0, 1, 999, 1000, 3500, 50000, (-1), 50001] 6 (by decide) (by decide) h0 h1
  refine ⟨w, a2, t, ?_, u, v⟩
  unfold spec_l1Cur_yarn7.f
  simp only [Option.bind_some, e1, e2, if_pos c0, if_pos c1, e3]
theorem drawAdd (code : List Int) (hc : codeOk code) : ∃ (l : List DPt) (a b c : Int) (s : List Int) (t : ByteArray) (g : Int), szR 12 l ∧ s.length ≤ 13 ∧ Ev (fun k => spec_DrawAddStuff.f k code) (l, a, b, c, s, t, g) := by
  obtain ⟨l, p, q, h1, h2, h3⟩ := recipe_ok code hc 0 0 (by omega) (by omega)
  obtain ⟨a, b, c, s, p2, q2, g1, g2, g3⟩ := bath_ok code hc l h1.1 p q h2.1 (by omega)
  have hl := h1.1
  obtain ⟨t, p3, q3, e3, _, u3, v3⟩ := of_ok code hc p2 q2 [(⟨#[97, 108, 117, 109]⟩ : ByteArray), (⟨#[110, 111, 110, 101]⟩ : ByteArray), (⟨#[]⟩ : ByteArray)] (by decide) (by omega) (by omega)
  have tail : ∀ (o : Bool) (x y : Int), (o = true → 0 < l.length) → 0 ≤ x → x ≤ 300000 → ∃ (t2 : ByteArray) (g : Int), Ev (fun k => spec_DrawAddStuff.j0 k l t o code x y a b c s) (l, a, b, c, s, t2, g) := by
    intro o x y ho x0 x1
    cases o with
    | false =>
      obtain ⟨v, p5, q5, e5, _⟩ := yarn7_ok code hc x y x0 (by omega)
      exact ⟨t, v, Ev.step (f := fun _ => some (l, a, b, c, s, t, v)) (fun k => by rw [spec_DrawAddStuff.j0, if_neg Bool.false_ne_true, e5, Option.bind_some]) (Ev.now _)⟩
    | true =>
      have := ho rfl
      obtain ⟨n, p4, q4, e4, n0, n1, u4, v4⟩ := pick_ok code hc x y (l.length : Int) x0 (by omega) (by omega)
      obtain ⟨v, p5, q5, e5, _⟩ := yarn7_ok code hc p4 q4 (by omega) (by omega)
      refine ⟨(rd_T43 l n).f0, v, Ev.step (f := fun _ => some (l, a, b, c, s, (rd_T43 l n).f0, v)) (fun k => ?_) (Ev.now _)⟩
      rw [spec_DrawAddStuff.j0, if_pos rfl, e4, Option.bind_some]
      dsimp only
      rw [if_pos n0, if_pos (by omega), e5, Option.bind_some]
  by_cases h0 : (l.length : Int) > 0
  · obtain ⟨o, p4, q4, e4, u4, v4⟩ := one_ok code hc p3 q3 6 (by omega) (by omega) (by omega)
    obtain ⟨t2, g, h5⟩ := tail (!o) p4 q4 (fun _ => by omega) (by omega) (by omega)
    refine ⟨l, a, b, c, s, t2, g, h1, g1, ?_⟩
    unfold spec_DrawAddStuff.f
    refine Ev.bind h3 (Ev.bind g3 ?_)
    simp only [e3, Option.bind_some, if_pos h0, e4]
    exact h5
  · obtain ⟨t2, g, h5⟩ := tail false p3 q3 (fun h => by cases h) (by omega) (by omega)
    refine ⟨l, a, b, c, s, t2, g, h1, g1, ?_⟩
    unfold spec_DrawAddStuff.f
    refine Ev.bind h3 (Ev.bind g3 ?_)
    simp only [e3, Option.bind_some, if_neg h0]
    exact h5
theorem FnBaths (l0 : List (Int)) (q_l0 : (l0.length ≤ maxLen ∧ ∀ q ∈ l0, (Lit.int .u8 q).wf = true)) : ∃ k, laws_FnBaths.f k l0 = some true := by
  by_cases hb : (l0.length : Int) > 65536
  · refine ⟨0, ?_⟩
    unfold laws_FnBaths.f laws_rBig.f
    rw [Option.bind_some, decide_eq_true hb, if_pos rfl]
  · have hc : codeOk l0 := codeOk_of l0 (by omega) q_l0.2
    have fin : Ev (fun k => laws_FnBaths.f k l0) true := by
      obtain ⟨l, a, b, c, s, ⟨hl, hz⟩, hs, d1⟩ := drawDye l0 hc
      obtain ⟨L, A, B, C, S, T, G, ⟨hL, hZ⟩, hS, d2⟩ := drawAdd l0 hc
      have hz' : ∀ x ∈ l, x.f0.size ≤ 1000 := fun x hx => by have := hz x hx; omega
      have hZ' : ∀ x ∈ L, x.f0.size ≤ 1000 := fun x hx => by have := hZ x hx; omega
      have i1 := DyeYarn_ev l a b c s (by omega)
      have i2 := sDyeYarn_ev l a b c s (by omega) hz' (by omega)
      have i3 := IsReady_ev l a b c s (by omega)
      have i4 := sIsReady_ev l a b c s (by omega) hz' (by omega)
      have i5 := IsBath_ev l a b c s (by omega)
      have i6 := MostYarn_ev l a b c s (by omega)
      have i7 := sMostYarn_ev l a b c s (by omega) hz' (by omega)
      have i8 := NeedsFor_ev l c (by omega)
      have i9 := sNeedsFor_ev l c (by omega) hz'
      have j1 := AddStuff_ev L A B C S T G (by omega)
      have j2 := sAddStuff_ev L A B C S T G (by omega) hZ' (by omega)
      have j3 := rBath_ev (addV L A B C S T G).1 (addV L A B C S T G).2.1 (addV L A B C S T G).2.2.1 (addV L A B C S T G).2.2.2.1 (by have := add_len L A B C S T G (by omega); omega)
      have j4 := rBath_ev (dyeV l a b c s).1 (dyeV l a b c s).2.1 (dyeV l a b c s).2.2.1 (dyeV l a b c s).2.2.2.1 (by have := dye_len l a b c s (by omega); omega)
      have j5 := rInts_ev (needV l c).1 (by have := need_len l c (by omega); omega)
      obtain ⟨f1, f2⟩ := ready_is l a b c s
      have f3 := dye_most l a b c s
      have f4 := most_tight l a b c s
      have f5 := add_back l a b c s
      have i10 : ∀ y, Ev (fun k => impl_IsReady.f k l a b y s) (isReadyV l a b y s) := fun y => IsReady_ev l a b y s (by omega)
      have i11 : ∀ (p q r : Int) (u : List Int) (t : ByteArray) (g : Int), Ev (fun k => impl_AddStuff.f k l p q r u t g) (addV l p q r u t g) := fun p q r u t g => AddStuff_ev l p q r u t g (by omega)
      obtain ⟨X, hX⟩ : ∃ X, X = addV L A B C S T G := ⟨_, rfl⟩
      rw [← hX] at j1 j2 j3
      obtain ⟨D, hD⟩ : ∃ D, D = dyeV l a b c s := ⟨_, rfl⟩
      rw [← hD] at i1 i2 j4 f1 f3 f5
      obtain ⟨R, hR⟩ : ∃ R, R = isReadyV l a b c s := ⟨_, rfl⟩
      rw [← hR] at i3 i4 f1 f2
      obtain ⟨M, hM⟩ : ∃ M, M = mostV l a b c s := ⟨_, rfl⟩
      rw [← hM] at i6 i7 f3 f4
      obtain ⟨Q, hQ⟩ : ∃ Q, Q = needV l c := ⟨_, rfl⟩
      rw [← hQ] at i8 i9 j5 f5
      clear hX hD hR hM hQ
      have tail : ∀ (x22 : List Int) (x26 : Int), Ev (fun k => laws_FnBaths.j7 k l0 l D.2.2.2.2 x22 x26 false a b c s D.1 D.2.1 D.2.2.1 D.2.2.2.1) true := fun x22 x26 => by
        refine Ev.step (fun k => by rw [laws_FnBaths.j7, if_neg Bool.false_ne_true]) (Ev.bind d2 (Ev.bind j1 (Ev.bind j2 ?_)))
        simp only [beq_self_eq_true, if_true]
        exact Ev.bind j3 (Ev.now _)
      have hloop : Ev (fun k => laws_FnBaths.l0 k l0 l D.2.2.2.2 Q.1 0 a b c s D.1 D.2.1 D.2.2.1 D.2.2.2.1) true := by
        refine Ev.upto (fun k i => laws_FnBaths.l0 k l0 l D.2.2.2.2 Q.1 i a b c s D.1 D.2.1 D.2.2.1 D.2.2.2.1) true l.length ?_ ?_
        · exact Ev.step (fun k => by rw [laws_FnBaths.l0, if_neg (by omega)]) (tail Q.1 _)
        · intro i hi hn
          refine Ev.step (f := fun k => laws_FnBaths.j7 k l0 l D.2.2.2.2 Q.1 (i : Int) D.2.2.2.2 a b c s D.1 D.2.1 D.2.2.1 D.2.2.2.1) (fun k => by rw [laws_FnBaths.l0, if_pos (by omega)]) ?_
          cases ho : D.2.2.2.2 with
          | false => have := tail Q.1 (i : Int); rw [ho] at this; exact this
          | true =>
            obtain ⟨g1, g2, g3, g4, g5⟩ := f5 ho i hi
            have e0 : rd_T43 l (i : Int) = l.getD i z43 := rfl
            have e1 : rd Q.1 (i : Int) = Q.1.getD i 0 := rfl
            have e2 : rd s (i : Int) = s.getD i 0 := rfl
            refine Ev.step (fun k => by rw [laws_FnBaths.j7, if_pos rfl, if_pos (by omega), if_pos (by omega), if_pos (by omega), e0, e1]) (Ev.bind (i11 _ _ _ _ _ _) ?_)
            obtain ⟨Y, hY⟩ : ∃ Y, Y = addV l D.1 D.2.1 D.2.2.1 D.2.2.2.1 (l.getD i z43).f0 (Q.1.getD i 0) := ⟨_, rfl⟩
            rw [← hY] at g1 g2 g3 ⊢
            have e3 : rd Y.2.2.2.1 (i : Int) = Y.2.2.2.1.getD i 0 := rfl
            simp only [g1, if_true, if_pos (show (Y.2.2.2.1.length : Int) = (l.length : Int) by omega), if_pos (show (i : Int) < (Y.2.2.2.1.length : Int) by omega), if_pos (show (i : Int) < (s.length : Int) by omega), e2, e3, g3, bne_self_eq_false]
            rw [ho] at hn
            exact Ev.step (fun k => by rw [laws_FnBaths.j8, if_neg Bool.false_ne_true, wrap_id ((i : Int) + 1) (by omega) (by omega)]) hn
      have hj4 : Ev (fun k => laws_FnBaths.j4 k l0 l D.2.2.2.2 a b c s D.1 D.2.1 D.2.2.1 D.2.2.2.1) true := by
        refine Ev.step (fun k => by rw [laws_FnBaths.j4]) (Ev.bind i8 (Ev.bind i9 ?_))
        simp only [bne_self_eq_false, Bool.false_eq_true, if_false]
        refine Ev.bind j5 ?_
        simp only [Bool.not_true]
        exact Ev.step (fun k => by rw [laws_FnBaths.j5, if_neg Bool.false_ne_true]) hloop
      have hj2 : Ev (fun k => laws_FnBaths.j2 k l0 l D.2.2.2.2 M.1 M.2 false a b c s D.1 D.2.1 D.2.2.1 D.2.2.2.1) true := by
        refine Ev.step (f := fun k => if M.2 = true then ((impl_IsReady.f k l a b M.1 s).bind fun bt503 => ((impl_IsReady.f k l a b (wrap64 (M.1 + 1)) s).bind fun bt505 => (if bt503.2 = true then (if bt503.1 = true then (if bt505.2 = true then (laws_FnBaths.j3 k l0 l D.2.2.2.2 bt505.1 a b c s D.1 D.2.1 D.2.2.1 D.2.2.2.1) else (laws_FnBaths.j3 k l0 l D.2.2.2.2 false a b c s D.1 D.2.1 D.2.2.1 D.2.2.2.1)) else (laws_FnBaths.j3 k l0 l D.2.2.2.2 true a b c s D.1 D.2.1 D.2.2.1 D.2.2.2.1)) else (laws_FnBaths.j3 k l0 l D.2.2.2.2 true a b c s D.1 D.2.1 D.2.2.1 D.2.2.2.1)))) else (laws_FnBaths.j4 k l0 l D.2.2.2.2 a b c s D.1 D.2.1 D.2.2.1 D.2.2.2.1)) (fun k => by rw [laws_FnBaths.j2, if_neg Bool.false_ne_true]) ?_
        cases hm : M.2 with
        | false => simp only [Bool.false_eq_true, if_false]; exact hj4
        | true =>
          obtain ⟨g1, g2, g3, g4⟩ := f4 hm
          simp only [if_true]
          refine Ev.bind (i10 M.1) (Ev.bind (i10 _) ?_)
          rw [g1, wrap_id (M.1 + 1) (by omega) (by omega)]
          have h3 : Ev (fun k => laws_FnBaths.j3 k l0 l D.2.2.2.2 false a b c s D.1 D.2.1 D.2.2.1 D.2.2.2.1) true := Ev.step (fun k => by rw [laws_FnBaths.j3, if_neg Bool.false_ne_true]) hj4
          simp only [if_true, g2, ite_self]
          exact h3
      have hj1 : Ev (fun k => laws_FnBaths.j1 k l0 l D.2.2.2.2 false a b c s D.1 D.2.1 D.2.2.1 D.2.2.2.1) true := by
        refine Ev.step (fun k => by rw [laws_FnBaths.j1, if_neg Bool.false_ne_true]) (Ev.bind i6 (Ev.bind i7 ?_))
        simp only [eq_self_iff_true, if_true, bne_self_eq_false, Bool.false_eq_true, if_false]
        cases ho : D.2.2.2.2 with
        | false => simp only [Bool.false_eq_true, if_false]; rw [ho] at hj2; exact hj2
        | true =>
          obtain ⟨g1, g2⟩ := f3 ho
          rw [ho, g1] at hj2
          simp only [if_true, g1, decide_eq_false g2]
          exact hj2
      have hj0 : Ev (fun k => laws_FnBaths.j0 k l0 l D.2.2.2.2 false a b c s D.1 D.2.1 D.2.2.1 D.2.2.2.1) true := by
        refine Ev.step (fun k => by rw [laws_FnBaths.j0, if_neg Bool.false_ne_true]) (Ev.bind i3 (Ev.bind i4 ?_))
        simp only [bne_self_eq_false, Bool.false_eq_true, if_false]
        refine Ev.bind i5 ?_
        simp only [f2, ← f1, bne_self_eq_false, Bool.false_eq_true, if_false]
        exact hj1
      unfold laws_FnBaths.f laws_rBig.f
      simp only [Option.bind_some, decide_eq_false hb, Bool.false_eq_true, if_false]
      refine Ev.bind d1 (Ev.bind i1 (Ev.bind i2 ?_))
      simp only [bne_self_eq_false, Bool.false_eq_true, if_false]
      refine Ev.bind j4 ?_
      simp only [Bool.not_true]
      exact hj0
    obtain ⟨K, hK⟩ := fin
    exact ⟨K, hK K (Nat.le_refl _)⟩
end Go.Proofs.YtfeighajmkcjfaaDoor.Pure
