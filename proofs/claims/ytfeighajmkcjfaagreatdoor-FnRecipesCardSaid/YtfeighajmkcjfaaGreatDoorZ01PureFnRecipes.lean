/- The plain law of FnRecipes: what the program's functions compute is what the reference's compute. No program and no memory in it. -/
import Derived.Test.YtfeighajmkcjfaaGreatDoorZ01Hx10
import Derived.Test.YtfeighajmkcjfaaGreatDoorZ01Lps
namespace Go.Proofs.YtfeighajmkcjfaaGreatDoor.Pure
open Go.RowKit Go.Proofs.YtfeighajmkcjfaaGreatDoorW.PrintWords Go.Proofs.YtfeighajmkcjfaaGreatDoorW.PrintLast Go.Proofs.YtfeighajmkcjfaaGreatDoor.H
set_option linter.unusedVariables false
set_option linter.unusedSimpArgs false
theorem l1In_eq (a b c : Int) : spec_l1In.f a b c = some (rng a b c) := spec_l1In.eq a b c
theorem in_eq (a b c : Int) : impl_in.f a b c = some (rng a b c) := impl_in.eq a b c
theorem word_at (s : ByteArray) (i : Nat) (hi : i < s.size) : bt s (i : Int) = (((s.data.toList)[i]'(by simpa using hi)).toNat : Int) := by
  unfold bt
  rw [dif_pos (by simpa using hi)]
  rfl
theorem l2Word_ev (s : ByteArray) (hs : s.size ≤ 2000000) : Ev (fun k => spec_l2Word.f k s) (isWordB s) := by
  unfold spec_l2Word.f
  have e : isWordB s = ((List.range s.size).all (fun i => decide (97 ≤ bt s (i : Int)) && decide (bt s (i : Int) ≤ 122)) && rng (s.size : Int) 1 10) := by
    unfold isWordB
    rw [Bool.and_comm]
    congr 1
    rw [Bool.eq_iff_iff, all_range, List.all_eq_true]
    constructor
    · intro h i hi
      have := h _ (List.getElem_mem (by simpa using hi : i < s.data.toList.length))
      rw [word_at s i hi]
      rw [Bool.and_eq_true, decide_eq_true_iff, decide_eq_true_iff] at this ⊢
      omega
    · intro h b hb
      obtain ⟨i, hi, rfl⟩ := List.getElem_of_mem hb
      have hi' : i < s.size := by simpa using hi
      have := h i hi'
      rw [word_at s i hi'] at this
      rw [Bool.and_eq_true, decide_eq_true_iff, decide_eq_true_iff] at this ⊢
      omega
  rw [e]
  refine Ev.scan (fun k i => spec_l2Word.l0 k s i) s.size _ _ (Ev.step (f := fun _ => some _) (fun k => ?_) (Ev.now _)) ?_ ?_
  · rw [spec_l2Word.l0, if_neg (by omega), l1In_eq]
    rfl
  · intro i hi hg
    refine Ev.step (f := fun _ => some false) (fun k => ?_) (Ev.now _)
    rw [spec_l2Word.l0, if_pos (by omega), if_pos (by omega)]
    by_cases c : bt s (i : Int) < 97
    · rw [if_pos c]
    · rw [if_neg c, if_pos]
      rw [Bool.and_eq_false_iff, decide_eq_false_iff_not, decide_eq_false_iff_not] at hg
      omega
  · intro i r hi hg hr
    refine Ev.step (fun k => ?_) hr
    rw [Bool.and_eq_true, decide_eq_true_iff, decide_eq_true_iff] at hg
    rw [spec_l2Word.l0, if_pos (by omega), if_pos (by omega), if_neg (by omega), if_neg (by omega), wrap_id _ (by omega) (by omega)]
theorem take_succ_getD {α : Type} (z : α) (a : List α) (i : Nat) (h : i < a.length) : a.take (i + 1) = a.take i ++ [a.getD i z] := by
  rw [List.take_succ_eq_append_getElem h, List.getD_eq_getElem?_getD, List.getElem?_eq_getElem h]
  rfl
theorem getD_map' {α β : Type} (f : α → β) (z : α) (y : β) (a : List α) (i : Nat) (h : i < a.length) : (a.map f).getD i y = f (a.getD i z) := by
  rw [List.getD_eq_getElem?_getD, List.getElem?_map, List.getD_eq_getElem?_getD, List.getElem?_eq_getElem h]
  rfl
theorem bl_irr : ∀ x : List UInt8, Op.bytesLess x x = false
  | [] => rfl
  | a :: x => by
    rw [Op.bytesLess, bl_irr x, Bool.and_false, Bool.or_false]
    exact decide_eq_false (by rw [UInt8.lt_iff_toNat_lt]; omega)
theorem bl_trans : ∀ x y z : List UInt8, Op.bytesLess x y = true → Op.bytesLess y z = true → Op.bytesLess x z = true
  | _, y, [], _, h2 => by cases y <;> cases h2
  | [], _, _ :: _, _, _ => rfl
  | a :: x, [], c :: z, h1, _ => by cases h1
  | a :: x, b :: y, c :: z, h1, h2 => by
    simp only [Op.bytesLess, Bool.or_eq_true, Bool.and_eq_true, decide_eq_true_eq, beq_iff_eq, UInt8.lt_iff_toNat_lt] at h1 h2 ⊢
    rcases h1 with h1 | ⟨rfl, h1⟩
    · rcases h2 with h2 | ⟨rfl, h2⟩
      · exact .inl (by omega)
      · exact .inl h1
    · rcases h2 with h2 | ⟨rfl, h2⟩
      · exact .inl h2
      · exact .inr ⟨rfl, bl_trans x y z h1 h2⟩
theorem getD_mem {α : Type} (z : α) (l : List α) (i : Nat) (hi : i < l.length) : l.getD i z ∈ l := by
  rw [List.getD_eq_getElem?_getD, List.getElem?_eq_getElem hi]
  exact List.getElem_mem hi
abbrev DPt := S53
theorem okPart_eq (x : DPt) : okPart x = (isWordB x.f0 && rng x.f1 1 1000) := by
  unfold okPart impl_IsRecipe_1.f impl_isWord.f
  simp only [in_eq, Option.bind_some]
  cases isWordB x.f0 <;> rfl
def lessT (l : List DPt) (i : Nat) : Bool := Op.bytesLess (l.getD i z53).f0.toList (l.getD (i + 1) z53).f0.toList
def rcp (l : List DPt) : Bool := rng (l.length : Int) 1 6 && (l.all okPart && (List.range (l.length - 1)).all (lessT l))
theorem IsRecipe_ev (l : List DPt) (hl : l.length ≤ 1000) : Ev (fun k => impl_IsRecipe.f k l) (rcp l) := by
  unfold impl_IsRecipe.f rcp
  simp only [in_eq, Option.bind_some, areAll_IsRecipe_1.f]
  have hj : Ev (fun k => impl_IsRecipe.j0 k l true) false := Ev.step (f := fun _ => some false) (fun k => by rw [impl_IsRecipe.j0, if_pos rfl]) (Ev.now _)
  cases h1 : rng (l.length : Int) 1 6 with
  | false => simp only [Bool.false_eq_true, if_false, Bool.false_and]; exact hj
  | true =>
    simp only [if_true, Bool.true_and]
    cases h2 : l.all okPart with
    | false => simp only [Bool.not_false, Bool.false_and]; exact hj
    | true =>
      simp only [Bool.not_true, Bool.true_and]
      refine Ev.step (fun k => by rw [impl_IsRecipe.j0, if_neg Bool.false_ne_true]) ?_
      have hlen : 1 ≤ l.length := by have := (rng_iff _ _ _).1 h1; omega
      have e0 : ∀ i : Nat, rd_T53 l ((i : Int) + 1 - 1) = l.getD i z53 := fun i => by
        show l.getD ((i : Int) + 1 - 1).toNat _ = _
        rw [show ((i : Int) + 1 - 1).toNat = i by omega]
      have e1 : ∀ i : Nat, rd_T53 l ((i : Int) + 1) = l.getD (i + 1) z53 := fun i => by
        show l.getD ((i : Int) + 1).toNat _ = _
        rw [show ((i : Int) + 1).toNat = i + 1 by omega]
      have G := Ev.scan (fun k i => impl_IsRecipe.l0 k l (i + 1)) (l.length - 1) (lessT l) true
        (Ev.step (f := fun _ => some true) (fun k => by rw [impl_IsRecipe.l0, if_neg (by omega)]) (Ev.now _))
        (fun i hi hg => Ev.step (f := fun _ => some false) (fun k => by
          have hg' : Op.bytesLess (l.getD i z53).f0.toList (l.getD (i + 1) z53).f0.toList = false := hg
          rw [impl_IsRecipe.l0, wrap_id ((i : Int) + 1 - 1) (by omega) (by omega), if_pos (by omega), if_pos (by omega), if_pos (by omega), if_pos (by omega), e0, e1, hg', if_neg Bool.false_ne_true]) (Ev.now _))
        (fun i r hi hg hr => Ev.step (fun k => by
          have hg' : Op.bytesLess (l.getD i z53).f0.toList (l.getD (i + 1) z53).f0.toList = true := hg
          rw [impl_IsRecipe.l0, wrap_id ((i : Int) + 1 - 1) (by omega) (by omega), if_pos (by omega), if_pos (by omega), if_pos (by omega), if_pos (by omega), e0, e1, hg', if_pos rfl, wrap_id ((i : Int) + 1 + 1) (by omega) (by omega)]) hr)
      rw [Bool.and_true] at G
      exact G
theorem l7Good_ev (l : List DPt) (hl : l.length ≤ 1000) (hz : ∀ x ∈ l, x.f0.size ≤ 1000) : Ev (fun k => spec_l7Good.f k l) (rcp l) := by
  unfold spec_l7Good.f
  have e : rcp l = ((List.range l.length).all (fun i => okPart (l.getD i z53) && (decide (i = 0) || lessT l (i - 1))) && rng (l.length : Int) 1 6) := by
    unfold rcp
    rw [Bool.and_comm]
    congr 1
    rw [Bool.eq_iff_iff, all_range, Bool.and_eq_true, all_getD z53, all_range]
    constructor
    · rintro ⟨h1, h2⟩ i hi
      rw [Bool.and_eq_true, Bool.or_eq_true, decide_eq_true_iff]
      refine ⟨h1 i hi, ?_⟩
      by_cases e : i = 0
      · exact .inl e
      · exact .inr (h2 (i - 1) (by omega))
    · intro h
      refine ⟨fun i hi => ?_, fun i hi => ?_⟩
      · have := h i hi
        rw [Bool.and_eq_true] at this
        exact this.1
      · have := h (i + 1) (by omega)
        rw [Bool.and_eq_true, Bool.or_eq_true, decide_eq_true_iff] at this
        rcases this.2 with h | h
        · omega
        · rwa [Nat.add_sub_cancel] at h
  have round : ∀ (i : Nat) (r : Bool), i < l.length → ((okPart (l.getD i z53) && (decide (i = 0) || lessT l (i - 1))) = true → Ev (fun k => spec_l7Good.l0 k l ((i : Int) + 1)) r) → ((okPart (l.getD i z53) && (decide (i = 0) || lessT l (i - 1))) = false → r = false) → Ev (fun k => spec_l7Good.l0 k l (i : Int)) r := by
    intro i r hi ht hf
    have h1 := l2Word_ev (l.getD i z53).f0 (by have := hz _ (getD_mem z53 l i hi); omega)
    have e0 : rd_T53 l (i : Int) = l.getD i z53 := rfl
    have w1 : wrap64 ((i : Int) - 1) = (i : Int) - 1 := wrap_id _ (by omega) (by omega)
    have w2 : wrap64 ((i : Int) + 1) = (i : Int) + 1 := wrap_id _ (by omega) (by omega)
    rw [okPart_eq] at ht hf
    refine Ev.step (fun k => by rw [spec_l7Good.l0, if_pos (by omega), if_pos (by omega), e0, w1, w2]) (Ev.bind h1 ?_)
    cases ho : isWordB (l.getD i z53).f0 with
    | false =>
      rw [hf (by rw [ho]; rfl)]
      simp only [Bool.false_eq_true, if_false]
      exact Ev.now _
    | true =>
      simp only [if_true, l1In_eq, Option.bind_some]
      cases hp : rng (l.getD i z53).f1 1 1000 with
      | false =>
        rw [hf (by rw [ho, hp]; rfl)]
        simp only [Bool.false_eq_true, if_false]
        exact Ev.now _
      | true =>
        simp only [if_true]
        by_cases c : i = 0
        · simp only [if_neg (show ¬ (i : Int) > 0 by omega)]
          exact ht (by rw [ho, hp, decide_eq_true c]; rfl)
        · have hd : lessT l (i - 1) = Op.bytesLess (rd_T53 l ((i : Int) - 1)).f0.toList (l.getD i z53).f0.toList := by
            unfold lessT
            rw [show i - 1 + 1 = i by omega]
            show _ = Op.bytesLess (l.getD ((i : Int) - 1).toNat _).f0.toList _
            rw [show ((i : Int) - 1).toNat = i - 1 by omega]
          simp only [if_pos (show (i : Int) > 0 by omega), if_pos (show 0 ≤ (i : Int) - 1 by omega), if_pos (show (i : Int) - 1 < (l.length : Int) by omega), ← hd]
          cases hq : lessT l (i - 1) with
          | false =>
            rw [hf (by rw [ho, hp, hq, decide_eq_false c]; rfl)]
            simp only [Bool.false_eq_true, if_false]
            exact Ev.now _
          | true =>
            simp only [if_true]
            exact ht (by rw [ho, hp, hq]; simp)
  rw [e]
  refine Ev.scan (fun k i => spec_l7Good.l0 k l i) l.length _ _ (Ev.step (f := fun _ => some _) (fun k => ?_) (Ev.now _)) ?_ ?_
  · rw [spec_l7Good.l0, if_neg (by omega), l1In_eq]
    rfl
  · intro i hi hg
    exact round i false hi (fun h => by rw [hg] at h; cases h) (fun _ => rfl)
  · intro i r hi hg hr
    exact round i r hi (fun _ => hr) (fun h => by rw [hg] at h; cases h)
def okBath (l : List DPt) (a b c : Int) (s : List Int) : Bool := rcp l && (rng a 1 500 && (rng b 0 100 && (rng c 0 50000 && (((s.length : Int) == (l.length : Int)) && s.all fun x => rng x 0 50000))))
theorem IsBath_ev (l : List DPt) (a b c : Int) (s : List Int) (hl : l.length ≤ 1000) : Ev (fun k => impl_IsBath.f k l a b c s) (okBath l a b c s) := by
  unfold impl_IsBath.f okBath
  refine Ev.bind (IsRecipe_ev l hl) ?_
  simp only [in_eq, Option.bind_some, impl_isGrams.f, areAll_impl_isGrams.f]
  cases rcp l <;> cases rng a 1 500 <;> cases rng b 0 100 <;> cases rng c 0 50000 <;> try exact Ev.now _
  simp only [if_true, Bool.true_and]
  by_cases e : (s.length : Int) = (l.length : Int)
  · simp only [if_pos e]
    rw [show ((s.length : Int) == (l.length : Int)) = true from beq_iff_eq.2 e, Bool.true_and]
    exact Ev.now _
  · simp only [if_neg e]
    rw [show ((s.length : Int) == (l.length : Int)) = false from beq_eq_false_iff_ne.2 e, Bool.false_and]
    exact Ev.now _
theorem l7Bath_ev (l : List DPt) (a b c : Int) (s : List Int) (hl : l.length ≤ 1000) (hz : ∀ x ∈ l, x.f0.size ≤ 1000) (hs : s.length ≤ 1000) : Ev (fun k => spec_l7Bath.f k l a b c s) (okBath l a b c s) := by
  unfold spec_l7Bath.f
  have e : okBath l a b c s = ((List.range s.length).all (fun i => rng (s.getD i 0) 0 50000) && (rcp l && (rng a 1 500 && (rng b 0 100 && (rng c 0 50000 && ((s.length : Int) == (l.length : Int))))))) := by
    unfold okBath
    have h : (s.all fun x => rng x 0 50000) = (List.range s.length).all (fun i => rng (s.getD i 0) 0 50000) := by rw [Bool.eq_iff_iff, all_range, all_getD 0]
    rw [h]
    ac_rfl
  rw [e]
  refine Ev.scan (fun k i => spec_l7Bath.l0 k l i a b c s) s.length _ _ ?_ ?_ ?_
  · refine Ev.step (fun k => by rw [spec_l7Bath.l0, if_neg (by omega)]) (Ev.bind (l7Good_ev l hl hz) ?_)
    simp only [l1In_eq, Option.bind_some, spec_l7Grams.f]
    cases rcp l <;> cases rng a 1 500 <;> cases rng b 0 100 <;> cases rng c 0 50000 <;> exact Ev.now _
  · intro i hi hg
    refine Ev.step (f := fun _ => some false) (fun k => ?_) (Ev.now _)
    rw [spec_l7Bath.l0, if_pos (by omega), if_pos (by omega)]
    unfold spec_l7Grams.f
    rw [l1In_eq, Option.bind_some, show rng (rd s (i : Int)) 0 50000 = false from hg]
    rfl
  · intro i r hi hg hr
    refine Ev.step (fun k => ?_) hr
    rw [spec_l7Bath.l0, if_pos (by omega), if_pos (by omega)]
    unfold spec_l7Grams.f
    rw [l1In_eq, Option.bind_some, show rng (rd s (i : Int)) 0 50000 = true from hg, Option.bind_some, if_pos rfl, wrap_id ((i : Int) + 1) (by omega) (by omega)]
theorem okBath_iff (l : List DPt) (a b c : Int) (s : List Int) (h : okBath l a b c s = true) : rcp l = true ∧ (1 ≤ a ∧ a ≤ 500) ∧ (0 ≤ b ∧ b ≤ 100) ∧ (0 ≤ c ∧ c ≤ 50000) ∧ s.length = l.length ∧ (∀ i, i < l.length → 0 ≤ s.getD i 0 ∧ s.getD i 0 ≤ 50000) := by
  unfold okBath at h
  simp only [Bool.and_eq_true, rng_iff, beq_iff_eq] at h
  obtain ⟨h1, h2, h3, h4, h5, h6⟩ := h
  refine ⟨h1, h2, h3, h4, by omega, fun i hi => ?_⟩
  exact (rng_iff _ _ _).1 ((all_getD 0 s _).1 h6 i (by omega))
theorem rcp_iff (l : List DPt) (h : rcp l = true) : (1 ≤ l.length ∧ l.length ≤ 6) ∧ (∀ x ∈ l, 1 ≤ x.f1 ∧ x.f1 ≤ 1000) ∧ ∀ i, i + 1 < l.length → lessT l i = true := by
  unfold rcp at h
  rw [Bool.and_eq_true, Bool.and_eq_true, rng_iff, all_range] at h
  refine ⟨by omega, fun x hx => ?_, fun i hi => h.2.2 i (by omega)⟩
  have := List.all_eq_true.1 h.2.1 x hx
  rw [okPart_eq, Bool.and_eq_true, rng_iff] at this
  exact this.2
theorem rcp_uniq (l : List DPt) (h : rcp l = true) : ∀ d i : Nat, i + d + 1 < l.length → Op.bytesLess (l.getD i z53).f0.toList (l.getD (i + d + 1) z53).f0.toList = true := by
  have h3 := (rcp_iff l h).2.2
  intro d
  induction d with
  | zero => intro i hi; exact h3 i hi
  | succ d ih =>
    intro i hi
    exact bl_trans _ _ _ (ih i (by omega)) (h3 (i + d + 1) (by omega))
theorem bl_total : ∀ x y : List UInt8, Op.bytesLess x y = false → Op.bytesLess y x = false → x = y
  | [], [], _, _ => rfl
  | [], _ :: _, h, _ => by cases h
  | _ :: _, [], _, h => by cases h
  | a :: x, b :: y, h1, h2 => by
    simp only [Op.bytesLess, Bool.or_eq_false_iff, Bool.and_eq_false_iff, decide_eq_false_iff_not, beq_eq_false_iff_ne, UInt8.lt_iff_toNat_lt] at h1 h2
    have e : a = b := UInt8.toNat_inj.1 (by omega)
    subst e
    rw [bl_total x y (h1.2.resolve_left (fun h => h rfl)) (h2.2.resolve_left (fun h => h rfl))]
theorem tl_inj (a b : ByteArray) (h : a.toList = b.toList) : a = b := by
  rw [Lib.toList_data, Lib.toList_data] at h
  obtain ⟨a⟩ := a
  obtain ⟨b⟩ := b
  congr 1
  exact Array.toList_inj.1 h
def ltB (x y : DPt) : Prop := Op.bytesLess x.f0.toList y.f0.toList = true
theorem ltB_irr (x : DPt) : ¬ ltB x x := by unfold ltB; rw [bl_irr]; decide
theorem ltB_trans {x y z : DPt} (h1 : ltB x y) (h2 : ltB y z) : ltB x z := bl_trans _ _ _ h1 h2
theorem ss_ext : ∀ l1 l2 : List DPt, l1.Pairwise ltB → l2.Pairwise ltB → (∀ x, x ∈ l1 ↔ x ∈ l2) → l1 = l2
  | [], [], _, _, _ => rfl
  | [], y :: l2, _, _, h => by cases (h y).2 (by simp)
  | x :: l1, [], _, _, h => by cases (h x).1 (by simp)
  | x :: l1, y :: l2, h1, h2, h => by
    rw [List.pairwise_cons] at h1 h2
    have e : x = y := by
      rcases List.mem_cons.1 ((h x).1 (by simp)) with a | a
      · exact a
      · rcases List.mem_cons.1 ((h y).2 (by simp)) with b | b
        · exact b.symm
        · exact absurd (ltB_trans (h1.1 y b) (h2.1 x a)) (ltB_irr x)
    subst e
    rw [ss_ext l1 l2 h1.2 h2.2 (fun z => ⟨fun hz => ?_, fun hz => ?_⟩)]
    · rcases List.mem_cons.1 ((h z).1 (List.mem_cons_of_mem _ hz)) with a | a
      · subst a; exact absurd (h1.1 z hz) (ltB_irr z)
      · exact a
    · rcases List.mem_cons.1 ((h z).2 (List.mem_cons_of_mem _ hz)) with a | a
      · subst a; exact absurd (h2.1 z hz) (ltB_irr z)
      · exact a
theorem rcp_pair (l : List DPt) (h : rcp l = true) : l.Pairwise ltB := by
  rw [List.pairwise_iff_getElem]
  intro i j hi hj hij
  have := rcp_uniq l h (j - i - 1) i (by omega)
  rw [show i + (j - i - 1) + 1 = j by omega] at this
  rw [List.getD_eq_getElem?_getD, List.getElem?_eq_getElem hi, List.getD_eq_getElem?_getD, List.getElem?_eq_getElem hj] at this
  exact this
def ofS : List DPt → List UInt8 → Int
  | [], _ => 0
  | x :: l, s => if x.f0.toList = s then x.f1 else ofS l s
theorem ofS_in (l : List DPt) (hp : l.Pairwise ltB) (x : DPt) (hx : x ∈ l) : ofS l x.f0.toList = x.f1 := by
  induction l with
  | nil => cases hx
  | cons y l ih =>
    rw [List.pairwise_cons] at hp
    rcases List.mem_cons.1 hx with a | a
    · subst a; rw [ofS, if_pos rfl]
    · have h1 := hp.1 x a
      rw [ofS, if_neg (fun e => by unfold ltB at h1; rw [e, bl_irr] at h1; cases h1), ih hp.2 a]
theorem ofS_has (l : List DPt) (s : List UInt8) (h : ofS l s ≠ 0) : ∃ x ∈ l, x.f0.toList = s := by
  induction l with
  | nil => exact absurd rfl h
  | cons x l ih =>
    by_cases e : x.f0.toList = s
    · exact ⟨x, by simp, e⟩
    · rw [ofS, if_neg e] at h
      obtain ⟨y, hy, e2⟩ := ih h
      exact ⟨y, by simp [hy], e2⟩
theorem ofS_rng (l : List DPt) (h : ∀ x ∈ l, 1 ≤ x.f1 ∧ x.f1 ≤ 1000) (s : List UInt8) : 0 ≤ ofS l s ∧ ofS l s ≤ 1000 := by
  induction l with
  | nil => exact ⟨by show (0 : Int) ≤ 0; omega, by show (0 : Int) ≤ 1000; omega⟩
  | cons x l ih =>
    unfold ofS
    split
    · have := h x (by simp); omega
    · exact ih (fun y hy => h y (by simp [hy]))
def mS (a b : List DPt) (sh : Int) (s : List UInt8) : Int := ofS a s * (100 - sh) + ofS b s * sh
theorem mS_rng (a b : List DPt) (sh : Int) (ha : ∀ x ∈ a, 1 ≤ x.f1 ∧ x.f1 ≤ 1000) (hb : ∀ x ∈ b, 1 ≤ x.f1 ∧ x.f1 ≤ 1000) (hs : 0 ≤ sh ∧ sh ≤ 100) (s : List UInt8) :
    (0 ≤ ofS a s * (100 - sh) ∧ ofS a s * (100 - sh) ≤ 100000) ∧ (0 ≤ ofS b s * sh ∧ ofS b s * sh ≤ 100000) := by
  have h1 := ofS_rng a ha s
  have h2 := ofS_rng b hb s
  exact ⟨⟨Int.mul_nonneg h1.1 (by omega), Int.le_trans (Int.mul_le_mul h1.2 (show 100 - sh ≤ 100 by omega) (by omega) (by omega)) (by omega)⟩, ⟨Int.mul_nonneg h2.1 hs.1, Int.le_trans (Int.mul_le_mul h2.2 hs.2 hs.1 (by omega)) (by omega)⟩⟩
def nS (a b : List DPt) (sh : Int) (s : List UInt8) : Int := (mS a b sh s + 99) / 100
def IsMix (a b : List DPt) (sh : Int) (o : List DPt) : Prop := o.Pairwise ltB ∧ ∀ x, x ∈ o ↔ (∃ p, p ∈ a ++ b ∧ p.f0 = x.f0) ∧ x.f1 = nS a b sh x.f0.toList ∧ 0 < x.f1
theorem IsMix.uniq {a b o1 o2 : List DPt} {sh : Int} (h1 : IsMix a b sh o1) (h2 : IsMix a b sh o2) : o1 = o2 :=
  ss_ext o1 o2 h1.1 h2.1 (fun x => (h1.2 x).trans (h2.2 x).symm)
theorem IsMix.comm {a b o : List DPt} {sh : Int} (h : IsMix a b sh o) : IsMix b a (100 - sh) o := by
  refine ⟨h.1, fun x => (h.2 x).trans ?_⟩
  have e : nS b a (100 - sh) x.f0.toList = nS a b sh x.f0.toList := by
    unfold nS mS
    rw [show 100 - (100 - sh) = sh by omega, Int.add_comm (ofS b x.f0.toList * sh)]
  rw [e]
  have c : (∃ p, p ∈ a ++ b ∧ p.f0 = x.f0) ↔ ∃ p, p ∈ b ++ a ∧ p.f0 = x.f0 := by
    constructor <;> (rintro ⟨p, hp, e⟩; exact ⟨p, by rw [List.mem_append] at *; exact hp.symm, e⟩)
  rw [c]
theorem IsMix.first (a b : List DPt) (ha : a.Pairwise ltB) (hr : ∀ x ∈ a, 1 ≤ x.f1 ∧ x.f1 ≤ 1000) : IsMix a b 0 a := by
  refine ⟨ha, fun x => ?_⟩
  have e : nS a b 0 x.f0.toList = ofS a x.f0.toList := by unfold nS mS; omega
  rw [e]
  constructor
  · intro hx
    exact ⟨⟨x, List.mem_append.2 (.inl hx), rfl⟩, (ofS_in a ha x hx).symm, by have := hr x hx; omega⟩
  · rintro ⟨_, h1, h2⟩
    obtain ⟨y, hy, e1⟩ := ofS_has a x.f0.toList (by omega)
    have e2 := ofS_in a ha y hy
    have e3 := tl_inj _ _ e1
    rw [e1] at e2
    have : x = y := by
      cases x; cases y
      simp only at e3 h1 e2
      congr 1
      · exact e3.symm
      · omega
    rw [this]; exact hy
def pk (a b : List DPt) (sh : Int) (l : List DPt) (i : Nat) : Bool := decide (0 < mS a b sh (l.getD i z53).f0.toList) && (decide (i = 0) || decide ((l.getD (i - 1) z53).f0.toList ≠ (l.getD i z53).f0.toList))
def mk1 (a b : List DPt) (sh : Int) (l : List DPt) (i : Nat) : DPt := ⟨(l.getD i z53).f0, nS a b sh (l.getD i z53).f0.toList⟩
def outI (a b : List DPt) (sh : Int) (l : List DPt) (i : Nat) : List DPt := ((List.range i).filter (pk a b sh l)).map (mk1 a b sh l)
theorem outI_succ (a b : List DPt) (sh : Int) (l : List DPt) (i : Nat) : outI a b sh l (i + 1) = outI a b sh l i ++ if pk a b sh l i = true then [mk1 a b sh l i] else [] := by
  unfold outI
  rw [List.range_succ, List.filter_append, List.map_append]
  congr 1
  by_cases c : pk a b sh l i = true
  · simp [c]
  · simp [c]
theorem outI_len (a b : List DPt) (sh : Int) (l : List DPt) (i : Nat) : (outI a b sh l i).length ≤ i := by
  have := List.length_filter_le (pk a b sh l) (List.range i)
  unfold outI
  rw [List.length_map]
  rwa [List.length_range] at this
def le1 (l : List DPt) : Prop := ∀ i j, i < j → j < l.length → Op.bytesLess (l.getD j z53).f0.toList (l.getD i z53).f0.toList = false
theorem le1_lt (l : List DPt) (h : le1 l) (i j : Nat) (hij : i < j) (hj : j < l.length) (hne : (l.getD (j - 1) z53).f0.toList ≠ (l.getD j z53).f0.toList) :
    Op.bytesLess (l.getD i z53).f0.toList (l.getD j z53).f0.toList = true := by
  have h1 : Op.bytesLess (l.getD (j - 1) z53).f0.toList (l.getD j z53).f0.toList = true := by
    cases hc : Op.bytesLess (l.getD (j - 1) z53).f0.toList (l.getD j z53).f0.toList with
    | true => rfl
    | false => exact absurd (bl_total _ _ hc (h (j - 1) j (by omega) hj)) hne
  by_cases e : i = j - 1
  · rw [e]; exact h1
  · cases hc : Op.bytesLess (l.getD i z53).f0.toList (l.getD (j - 1) z53).f0.toList with
    | true => exact bl_trans _ _ _ hc h1
    | false => rw [bl_total _ _ hc (h i (j - 1) (by omega) (by omega))]; exact h1
theorem mS_pos (a b : List DPt) (sh : Int) (ha : ∀ x ∈ a, 1 ≤ x.f1 ∧ x.f1 ≤ 1000) (hb : ∀ x ∈ b, 1 ≤ x.f1 ∧ x.f1 ≤ 1000) (hs : 0 ≤ sh ∧ sh ≤ 100) (s : List UInt8) : 0 ≤ nS a b sh s ∧ nS a b sh s ≤ 2000 ∧ (0 < nS a b sh s ↔ 0 < mS a b sh s) := by
  have := mS_rng a b sh ha hb hs s
  have e : mS a b sh s = ofS a s * (100 - sh) + ofS b s * sh := rfl
  unfold nS
  omega
theorem outI_mix (a b : List DPt) (sh : Int) (ha : ∀ x ∈ a, 1 ≤ x.f1 ∧ x.f1 ≤ 1000) (hb : ∀ x ∈ b, 1 ≤ x.f1 ∧ x.f1 ≤ 1000) (hs : 0 ≤ sh ∧ sh ≤ 100) (l : List DPt) (hp : l.Perm (a ++ b)) (hl : le1 l) : IsMix a b sh (outI a b sh l l.length) := by
  refine ⟨?_, fun x => ?_⟩
  · unfold outI
    rw [List.pairwise_map, List.pairwise_filter]
    refine List.Pairwise.imp_of_mem (fun {i j} hi hj hij pi pj => ?_) List.pairwise_lt_range
    have hj' := List.mem_range.1 hj
    unfold pk at pj
    rw [Bool.and_eq_true, Bool.or_eq_true, decide_eq_true_iff, decide_eq_true_iff, decide_eq_true_iff] at pj
    exact le1_lt l hl i j hij hj' (pj.2.resolve_left (by omega))
  · unfold outI
    rw [List.mem_map]
    constructor
    · rintro ⟨i, hi, rfl⟩
      rw [List.mem_filter, List.mem_range] at hi
      obtain ⟨hi, hk⟩ := hi
      unfold pk at hk
      rw [Bool.and_eq_true, decide_eq_true_iff] at hk
      exact ⟨⟨l.getD i z53, hp.mem_iff.1 (getD_mem _ l i hi), rfl⟩, rfl, (mS_pos a b sh ha hb hs _).2.2.2 hk.1⟩
    · rintro ⟨⟨p, h1, h2⟩, h3, h4⟩
      have h5 := hp.mem_iff.2 h1
      obtain ⟨j, hj, ej⟩ := List.mem_iff_getElem.1 h5
      have key : ∀ n j, j ≤ n → j < l.length → (l.getD j z53).f0 = x.f0 → ∃ i, i < l.length ∧ pk a b sh l i = true ∧ (l.getD i z53).f0 = x.f0 := by
        intro n
        induction n with
        | zero =>
          intro j h0 hj e
          refine ⟨j, hj, ?_, e⟩
          unfold pk
          rw [e, decide_eq_true ((mS_pos a b sh ha hb hs _).2.2.1 (by omega)), decide_eq_true (show j = 0 by omega)]
          rfl
        | succ n ih =>
          intro j h0 hj e
          by_cases c : pk a b sh l j = true
          · exact ⟨j, hj, c, e⟩
          · unfold pk at c
            rw [e, decide_eq_true ((mS_pos a b sh ha hb hs _).2.2.1 (by omega)), Bool.true_and, Bool.or_eq_true, decide_eq_true_iff, decide_eq_true_iff, not_or, Decidable.not_not] at c
            exact ih (j - 1) (by omega) (by omega) (tl_inj _ _ c.2)
      obtain ⟨i, hi, hk, e⟩ := key j j (Nat.le_refl _) hj (by rw [List.getD_eq_getElem?_getD, List.getElem?_eq_getElem hj]; show (l[j]).f0 = _; rw [ej]; exact h2)
      refine ⟨i, by rw [List.mem_filter, List.mem_range]; exact ⟨hi, hk⟩, ?_⟩
      unfold mk1
      cases x
      simp only at e h3 ⊢
      rw [e, h3]
def IsMixTo (a b : List DPt) (sh : Int) (i : Nat) (o : List DPt) : Prop := o.Pairwise ltB ∧ (∀ x, x ∈ o ↔ (∃ p, p ∈ (a ++ b).take i ∧ p.f0 = x.f0) ∧ x.f1 = nS a b sh x.f0.toList ∧ 0 < x.f1) ∧ o.length ≤ i
theorem IsMixTo.all {a b o : List DPt} {sh : Int} (h : IsMixTo a b sh (a ++ b).length o) : IsMix a b sh o := by
  refine ⟨h.1, fun x => ?_⟩
  rw [h.2.1 x, List.take_length]
theorem ofS_pos (o : List DPt) (hp : o.Pairwise ltB) (hr : ∀ x ∈ o, 0 < x.f1) (s : List UInt8) : 0 < ofS o s ↔ ∃ x ∈ o, x.f0.toList = s := by
  constructor
  · intro h; exact ofS_has o s (by omega)
  · rintro ⟨x, hx, e⟩
    rw [← e, ofS_in o hp x hx]
    exact hr x hx
theorem IsMixTo.skip {a b o : List DPt} {sh : Int} {i : Nat} (h : IsMixTo a b sh i o) (hi : i < (a ++ b).length) (hc : ¬ 0 < nS a b sh ((a ++ b).getD i z53).f0.toList ∨ 0 < ofS o ((a ++ b).getD i z53).f0.toList) : IsMixTo a b sh (i + 1) o := by
  refine ⟨h.1, fun x => ?_, by have := h.2.2; omega⟩
  rw [h.2.1 x, take_succ_getD z53 (a ++ b) i hi]
  constructor
  · rintro ⟨⟨p, h1, h2⟩, h3⟩
    exact ⟨⟨p, by simp [h1], h2⟩, h3⟩
  · rintro ⟨⟨p, h1, h2⟩, h3, h4⟩
    rcases List.mem_append.1 h1 with c | c
    · exact ⟨⟨p, c, h2⟩, h3, h4⟩
    · rw [List.mem_singleton] at c
      rw [← c] at hc
      rcases hc with hc | hc
      · rw [h2] at hc; omega
      · rw [ofS_pos o h.1 (fun y hy => ((h.2.1 y).1 hy).2.2)] at hc
        obtain ⟨y, hy, e⟩ := hc
        obtain ⟨⟨q, q1, q2⟩, q3, q4⟩ := (h.2.1 y).1 hy
        exact ⟨⟨q, q1, q2.trans ((tl_inj _ _ e).trans h2)⟩, h3, h4⟩
theorem IsMixTo.put {a b o : List DPt} {sh : Int} {i k : Nat} (h : IsMixTo a b sh i o) (hi : i < (a ++ b).length) (hn : 0 < nS a b sh ((a ++ b).getD i z53).f0.toList) (ho : ¬ 0 < ofS o ((a ++ b).getD i z53).f0.toList)
    (hk : k ≤ o.length) (hlo : k = 0 ∨ Op.bytesLess ((a ++ b).getD i z53).f0.toList (o.getD (k - 1) z53).f0.toList = false) (hhi : ∀ j, k ≤ j → j < o.length → Op.bytesLess ((a ++ b).getD i z53).f0.toList (o.getD j z53).f0.toList = true) :
    IsMixTo a b sh (i + 1) (o.take k ++ [⟨((a ++ b).getD i z53).f0, nS a b sh ((a ++ b).getD i z53).f0.toList⟩] ++ o.drop k) := by
  obtain ⟨p, hp⟩ : ∃ p, p = (a ++ b).getD i z53 := ⟨_, rfl⟩
  rw [take_succ_getD z53 (a ++ b) i hi |> fun e => (show IsMixTo a b sh (i + 1) = IsMixTo a b sh (i + 1) from rfl)]
  rw [ofS_pos o h.1 (fun y hy => ((h.2.1 y).1 hy).2.2)] at ho
  rw [← hp] at hn ho hlo hhi ⊢
  have hsplit : o.take k ++ o.drop k = o := List.take_append_drop k o
  have hpw := h.1
  rw [← hsplit, List.pairwise_append] at hpw
  obtain ⟨p1, p2, p3⟩ := hpw
  have hup : ∀ y ∈ o.drop k, Op.bytesLess p.f0.toList y.f0.toList = true := by
    intro y hy
    obtain ⟨j, hj, e⟩ := List.mem_iff_getElem.1 hy
    rw [List.getElem_drop] at e
    rw [List.length_drop] at hj
    have := hhi (k + j) (by omega) (by omega)
    rw [List.getD_eq_getElem?_getD, List.getElem?_eq_getElem (by omega)] at this
    rw [← e]; exact this
  have hdn : ∀ y ∈ o.take k, Op.bytesLess y.f0.toList p.f0.toList = true := by
    intro y hy
    obtain ⟨j, hj, e⟩ := List.mem_iff_getElem.1 hy
    rw [List.getElem_take] at e
    rw [List.length_take] at hj
    have hlo' := hlo.resolve_left (by omega)
    have e1 : o.getD (k - 1) z53 = o[k - 1]'(by omega) := by rw [List.getD_eq_getElem?_getD, List.getElem?_eq_getElem (by omega)]; rfl
    rw [e1] at hlo'
    have h1 : Op.bytesLess (o[k - 1]'(by omega)).f0.toList p.f0.toList = true := by
      cases hc : Op.bytesLess (o[k - 1]'(by omega)).f0.toList p.f0.toList with
      | true => rfl
      | false => exact absurd ⟨_, List.getElem_mem (by omega), bl_total _ _ hc hlo'⟩ ho
    by_cases ej : j = k - 1
    · subst ej; rw [← e]; exact h1
    · have h2 : ltB (o[j]'(by omega)) (o[k - 1]'(by omega)) := (List.pairwise_iff_getElem.1 h.1) j (k - 1) (by omega) (by omega) (by omega)
      rw [← e]
      exact bl_trans _ _ _ h2 h1
  refine ⟨?_, fun x => ?_, ?_⟩
  · rw [List.append_assoc, List.pairwise_append]
    refine ⟨p1, ?_, ?_⟩
    · rw [List.singleton_append, List.pairwise_cons]
      exact ⟨fun y hy => hup y hy, p2⟩
    · intro y hy z hz
      rcases List.mem_append.1 hz with c | c
      · rw [List.mem_singleton] at c
        rw [c]; exact hdn y hy
      · exact p3 y hy z c
  · rw [take_succ_getD z53 (a ++ b) i hi, ← hp]
    have hm : (x ∈ o.take k ++ [⟨p.f0, nS a b sh p.f0.toList⟩] ++ o.drop k) ↔ x ∈ o ∨ x = ⟨p.f0, nS a b sh p.f0.toList⟩ := by
      rw [List.mem_append, List.mem_append, List.mem_singleton]
      have : x ∈ o ↔ x ∈ o.take k ∨ x ∈ o.drop k := by rw [← List.mem_append, hsplit]
      rw [this]
      constructor
      · rintro ((a | a) | a)
        · exact .inl (.inl a)
        · exact .inr a
        · exact .inl (.inr a)
      · rintro ((a | a) | a)
        · exact .inl (.inl a)
        · exact .inr a
        · exact .inl (.inr a)
    rw [hm, h.2.1 x]
    constructor
    · rintro (⟨⟨q, q1, q2⟩, q3⟩ | e)
      · exact ⟨⟨q, by simp [q1], q2⟩, q3⟩
      · rw [e]
        exact ⟨⟨p, by simp, rfl⟩, rfl, hn⟩
    · rintro ⟨⟨q, q1, q2⟩, q3, q4⟩
      rcases List.mem_append.1 q1 with c | c
      · exact .inl ⟨⟨q, c, q2⟩, q3, q4⟩
      · rw [List.mem_singleton] at c
        refine .inr ?_
        rw [c] at q2
        cases x
        simp only at q2 q3 ⊢
        rw [q2, q3]
  · rw [List.length_append, List.length_append, List.length_take, List.length_drop, List.length_singleton]
    have := h.2.2
    omega
theorem IsMixTo.zero (a b : List DPt) (sh : Int) : IsMixTo a b sh 0 [] := ⟨List.Pairwise.nil, fun x => ⟨fun h => (by cases h), fun ⟨⟨p, h, _⟩, _⟩ => (by rw [List.take_zero] at h; cases h)⟩, Nat.le_refl _⟩
theorem ofS_findI (l : List DPt) (s : ByteArray) (p : DPt → Bool) (hp : ∀ x, p x = true ↔ x.f0.toList = s.toList) : (findI p l < 0 ∧ ofS l s.toList = 0) ∨ (0 ≤ findI p l ∧ findI p l < (l.length : Int) ∧ ofS l s.toList = (l.getD (findI p l).toNat z53).f1) := by
  induction l with
  | nil => exact .inl ⟨by show (-1 : Int) < 0; omega, rfl⟩
  | cons x r ih =>
    by_cases e : x.f0.toList = s.toList
    · have h : findI p (x :: r) = 0 := by unfold findI; rw [if_pos ((hp x).2 e)]
      rw [h, ofS, if_pos e]
      exact .inr ⟨Int.le_refl _, by rw [List.length_cons]; omega, rfl⟩
    · have h : findI p (x :: r) = if findI p r < 0 then -1 else findI p r + 1 := by
        rw [findI, if_neg (fun c => e ((hp x).1 c))]
      rw [h, ofS, if_neg e]
      rcases ih with ⟨h1, h2⟩ | ⟨h1, h2, h3⟩
      · rw [if_pos h1]; exact .inl ⟨by omega, h2⟩
      · rw [if_neg (by omega)]
        refine .inr ⟨by omega, by rw [List.length_cons]; omega, ?_⟩
        rw [h3, show (findI p r + 1).toNat = (findI p r).toNat + 1 by omega]
        rfl
theorem perMil_eq (l : List DPt) (s : ByteArray) : impl_perMilOf.f l s = some (ofS l s.toList) := by
  unfold impl_perMilOf.f impl_findStuff.f
  have key : ∀ p : DPt → Bool, (∀ x, p x = true ↔ x.f0.toList = s.toList) → ((some (findI p l)).bind fun t212 => (if t212 ≥ 0 then (if 0 ≤ t212 then (if t212 < (l.length : Int) then (some ((rd_T53 l t212).f1)) else (none)) else (none)) else (some 0))) = some (ofS l s.toList) := fun p hp => by
    rw [Option.bind_some]
    rcases ofS_findI l s p hp with ⟨h1, h2⟩ | ⟨h1, h2, h3⟩
    · rw [if_neg (by omega), h2]
    · rw [if_pos h1, if_pos h1, if_pos h2, h3]
      rfl
  exact key _ (fun x => decide_eq_true_iff)
theorem l7Of_ev (l : List DPt) (s : ByteArray) (hl : l.length ≤ 1000000) : Ev (fun k => spec_l7Of.f k l s) (ofS l s.toList) := by
  have key : ∀ d i : Nat, i + d = l.length → Ev (fun k => spec_l7Of.l0 k l s (i : Int)) (ofS (l.drop i) s.toList) := by
    intro d
    induction d with
    | zero =>
      intro i hi
      rw [List.drop_eq_nil_of_le (by omega)]
      exact Ev.step (f := fun _ => some 0) (fun k => by rw [spec_l7Of.l0, if_neg (by omega)]) (Ev.now _)
    | succ d ih =>
      intro i hi
      have e0 : rd_T53 l (i : Int) = l[i]'(by omega) := by
        show l.getD i _ = _
        rw [List.getD_eq_getElem?_getD, List.getElem?_eq_getElem (by omega)]; rfl
      rw [List.drop_eq_getElem_cons (show i < l.length by omega), ofS]
      by_cases e : (l[i]'(by omega)).f0.toList = s.toList
      · rw [if_pos e]
        exact Ev.step (f := fun _ => some (l[i]'(by omega)).f1) (fun k => by rw [spec_l7Of.l0, if_pos (by omega), if_pos (by omega), e0, if_pos e]) (Ev.now _)
      · rw [if_neg e]
        have G := ih (i + 1) (by omega)
        rw [show ((i + 1 : Nat) : Int) = (i : Int) + 1 from by omega] at G
        exact Ev.step (fun k => by rw [spec_l7Of.l0, if_pos (by omega), if_pos (by omega), e0, if_neg e, wrap_id ((i : Int) + 1) (by omega) (by omega)]) G
  exact key l.length 0 (by omega)
theorem srt_le1 (l : List DPt) : le1 (sorted_dp cmpD l) := by
  intro i j hij hj
  have h := (sorted_dp_perm swoD l).2 i j (by omega) hj hij
  rw [ltD] at h
  rw [List.getD_eq_getElem?_getD, List.getElem?_eq_getElem hj, List.getD_eq_getElem?_getD, List.getElem?_eq_getElem (show i < (sorted_dp cmpD l).length by omega)]
  exact h
def mixL (a b : List DPt) (sh : Int) : List DPt := outI a b sh (sorted_dp cmpD (a ++ b)) (a ++ b).length
theorem rcp_f1 (l : List DPt) (h : rcp l = true) : ∀ x ∈ l, 1 ≤ x.f1 ∧ x.f1 ≤ 1000 := (rcp_iff l h).2.1
theorem rcp_size (l : List DPt) (h : rcp l = true) : ∀ x ∈ l, x.f0.size ≤ 1000 := by
  intro x hx
  unfold rcp at h
  rw [Bool.and_eq_true, Bool.and_eq_true] at h
  have := List.all_eq_true.1 h.2.1 x hx
  rw [okPart_eq, Bool.and_eq_true] at this
  have h1 := this.1
  unfold isWordB at h1
  rw [Bool.and_eq_true, rng_iff] at h1
  omega
theorem mixL_mix (a b : List DPt) (sh : Int) (ha : rcp a = true) (hb : rcp b = true) (hs : 0 ≤ sh ∧ sh ≤ 100) : IsMix a b sh (mixL a b sh) := by
  have h := outI_mix a b sh (rcp_f1 a ha) (rcp_f1 b hb) hs (sorted_dp cmpD (a ++ b)) (sorted_dp_perm swoD (a ++ b)).1 (srt_le1 _)
  rw [sorted_dp_len swoD] at h
  exact h
theorem mixL_len (a b : List DPt) (sh : Int) : (mixL a b sh).length ≤ a.length + b.length := by
  have := outI_len a b sh (sorted_dp cmpD (a ++ b)) (a ++ b).length
  rw [List.length_append] at this
  unfold mixL
  rwa [List.length_append]
def mixW (o : List DPt) : List DPt × Bool := if rcp o = true then (o, true) else ([], false)
set_option maxHeartbeats 2000000 in
theorem implMix_ev (a b : List DPt) (sh : Int) (ha : rcp a = true) (hb : rcp b = true) (hs : 0 ≤ sh ∧ sh ≤ 100) : Ev (fun k => impl_MixRecipes.f k a b sh) (mixW (mixL a b sh)) := by
  have la := (rcp_iff a ha).1
  have lb := (rcp_iff b hb).1
  unfold impl_MixRecipes.f
  refine Ev.bind (IsRecipe_ev a (by omega)) ?_
  simp only [ha, if_true]
  refine Ev.bind (IsRecipe_ev b (by omega)) ?_
  simp only [hb, if_true, in_eq, Option.bind_some, (rng_iff sh 0 100).2 hs, Bool.not_true]
  have hlen : (a ++ b).length ≤ 12 := by rw [List.length_append]; omega
  have hS := sorted_dp_len swoD (a ++ b)
  have ec : concat2.f a b = some (a ++ b) := by unfold concat2.f; rw [if_pos (by omega)]
  have es : sortD.f (a ++ b) = some (sorted_dp cmpD (a ++ b)) := by unfold sortD.f; rw [if_pos (by omega)]
  obtain ⟨al, hal⟩ : ∃ al, al = sorted_dp cmpD (a ++ b) := ⟨_, rfl⟩
  have hm : mixL a b sh = outI a b sh al (a ++ b).length := by rw [hal]; rfl
  rw [← hal] at hS es
  refine Ev.step (fun k => by rw [impl_MixRecipes.j0, if_neg Bool.false_ne_true, ec, Option.bind_some, es, Option.bind_some]) ?_
  obtain ⟨r, hr, h⟩ := Ev.loopE (fun k i (s : List DPt) => impl_MixRecipes.l0 k a b sh al s ((a ++ b).length : Int) i) (a ++ b).length (fun i s => s = outI a b sh al i) (fun r => r = mixW (mixL a b sh))
    (fun s hs => by
      rw [← hm] at hs
      subst hs
      refine ⟨_, rfl, Ev.step (fun k => by rw [impl_MixRecipes.l0, if_neg (by omega)]) (Ev.bind (IsRecipe_ev _ (by have := mixL_len a b sh; omega)) ?_)⟩
      unfold mixW
      cases rcp (mixL a b sh) with
      | false => simp only [Bool.false_eq_true, if_false]; exact Ev.now _
      | true => simp only [if_true]; exact Ev.now _)
    (fun i s hi hsi => by
      refine ⟨outI a b sh al (i + 1), rfl, fun r h => ?_⟩
      have e0 : rd_T53 al (i : Int) = al.getD i z53 := rfl
      have hol := outI_len a b sh al i
      have hb1 := mS_rng a b sh (rcp_f1 a ha) (rcp_f1 b hb) hs (al.getD i z53).f0.toList
      obtain ⟨pa, hpa⟩ : ∃ pa, pa = ofS a (al.getD i z53).f0.toList * (100 - sh) := ⟨_, rfl⟩
      obtain ⟨pb, hpb⟩ : ∃ pb, pb = ofS b (al.getD i z53).f0.toList * sh := ⟨_, rfl⟩
      have hsum : mS a b sh (al.getD i z53).f0.toList = pa + pb := by rw [hpa, hpb]; rfl
      rw [← hpa, ← hpb] at hb1
      have hn : nS a b sh (al.getD i z53).f0.toList = (mS a b sh (al.getD i z53).f0.toList + 99) / 100 := rfl
      rw [outI_succ, ← hsi] at h
      rw [← hsi] at hol
      have w0 : Aside0 (wrap64 (100 - sh) = 100 - sh) := ⟨wrap_id _ (by omega) (by omega)⟩
      have w1 : Aside0 (wrap64 ((i : Int) - 1) = (i : Int) - 1) := ⟨wrap_id _ (by omega) (by omega)⟩
      have w2 : Aside0 (wrap64 ((i : Int) + 1) = (i : Int) + 1) := ⟨wrap_id _ (by omega) (by omega)⟩
      obtain ⟨m, hme⟩ : ∃ m, m = mS a b sh (al.getD i z53).f0.toList := ⟨_, rfl⟩
      have wm : Aside0 (wrap64 (wrap64 (ofS a (al.getD i z53).f0.toList * (100 - sh)) + wrap64 (ofS b (al.getD i z53).f0.toList * sh)) = m) := ⟨by
        rw [← hpa, ← hpb, wrap_id pa (by omega) (by omega), wrap_id pb (by omega) (by omega), ← hsum, ← hme, wrap_id m (by omega) (by omega)]⟩
      have hm0 : 0 ≤ m ∧ m ≤ 200000 := by omega
      have hcd : impl_ceilDiv.f m 100 = some (nS a b sh (al.getD i z53).f0.toList) := by
        unfold impl_ceilDiv.f
        rw [if_neg (by omega), wrap_id (m + 100) (by omega) (by omega), wrap_id (m + 100 - 1) (by omega) (by omega), Int.tdiv_eq_ediv_of_nonneg (by omega), wrap_id _ (by omega) (by omega), hn, ← hme, show m + 100 - 1 = m + 99 by omega]
      have e1 : i ≠ 0 → rd_T53 al ((i : Int) - 1) = al.getD (i - 1) z53 := fun hi0 => by
        show al.getD ((i : Int) - 1).toNat _ = _
        rw [show ((i : Int) - 1).toNat = i - 1 by omega]
      have hk : pk a b sh al i = (decide (0 < m) && (decide (i = 0) || decide ((al.getD (i - 1) z53).f0.toList ≠ (al.getD i z53).f0.toList))) := by rw [hme, pk]
      refine Ev.step (fun k => by
        rw [impl_MixRecipes.l0, if_pos (by omega), if_pos (by omega), if_pos (by omega), e0, perMil_eq, Option.bind_some, perMil_eq, Option.bind_some, w0.out, wm.out, w1.out, w2.out]) ?_
      by_cases hp : m > 0
      · simp only [if_pos hp]
        by_cases hi0 : i = 0
        · rw [hk, decide_eq_true hp, decide_eq_true hi0] at h
          simp only [if_pos (show (i : Int) = 0 by omega), hcd, Option.bind_some, if_pos (show s.length < 5864062014805 by omega)]
          exact h
        · simp only [if_neg (show ¬ (i : Int) = 0 by omega), if_pos (show 0 ≤ (i : Int) - 1 by omega), if_pos (show (i : Int) - 1 < (al.length : Int) by omega), e1 hi0]
          by_cases hq : (al.getD (i - 1) z53).f0.toList = (al.getD i z53).f0.toList
          · rw [hk, decide_eq_false hi0, decide_eq_false (show ¬ (al.getD (i - 1) z53).f0.toList ≠ (al.getD i z53).f0.toList from fun c => c hq), Bool.or_false, Bool.and_false, if_neg Bool.false_ne_true, List.append_nil] at h
            simp only [if_pos hq]
            exact h
          · rw [hk, decide_eq_true hp, decide_eq_false hi0, decide_eq_true hq] at h
            simp only [if_neg hq, hcd, Option.bind_some, if_pos (show s.length < 5864062014805 by omega)]
            exact h
      · rw [hk, decide_eq_false hp, Bool.false_and, if_neg Bool.false_ne_true, List.append_nil] at h
        simp only [if_neg hp]
        exact h) [] (by unfold outI; rfl)
  subst hr
  exact h
theorem ins_ev (a b : List DPt) (sh : Int) (o al : List DPt) (i : Nat) (st : ByteArray) (n : Int) (ho : o.length ≤ 1000) (hi : i ≤ 1000000) : ∀ k, k ≤ o.length → (∀ j, k ≤ j → j < o.length → Op.bytesLess st.toList (o.getD j z53).f0.toList = true) →
    ∃ k', k' ≤ o.length ∧ (k' = 0 ∨ Op.bytesLess st.toList (o.getD (k' - 1) z53).f0.toList = false) ∧ (∀ j, k' ≤ j → j < o.length → Op.bytesLess st.toList (o.getD j z53).f0.toList = true) ∧
      ∀ r, Ev (fun q => spec_MixRecipes.l0 q a b sh (o.take k' ++ [⟨st, n⟩] ++ o.drop k') al ((i : Int) + 1)) r → Ev (fun q => spec_MixRecipes.l1 q a b sh o al (i : Int) st n (k : Int)) r := by
  have w2 : Aside0 (wrap64 ((i : Int) + 1) = (i : Int) + 1) := ⟨wrap_id _ (by omega) (by omega)⟩
  have ei : ∀ k, k ≤ o.length → insD.f o (k : Int) st n = some (o.take k ++ [⟨st, n⟩] ++ o.drop k) := fun k hk => by
    unfold insD.f
    rw [if_pos ⟨by omega, by omega, ho⟩, Int.toNat_natCast]
  intro k
  induction k with
  | zero =>
    intro hk hhi
    exact ⟨0, hk, .inl rfl, hhi, fun r h => Ev.step (fun q => by rw [spec_MixRecipes.l1, if_neg (by omega), show (((0 : Nat) : Int)) = ((0 : Nat) : Int) from rfl, ei 0 hk, Option.bind_some, w2.out]) h⟩
  | succ k ih =>
    intro hk hhi
    have w1 : Aside0 (wrap64 (((k + 1 : Nat) : Int) - 1) = (k : Int)) := ⟨by rw [wrap_id _ (by omega) (by omega)]; omega⟩
    have e0 : rd_T53 o (k : Int) = o.getD k z53 := rfl
    cases hq : Op.bytesLess st.toList (o.getD k z53).f0.toList with
    | true =>
      obtain ⟨k', h1, h2, h3, h4⟩ := ih (by omega) (fun j h1 h2 => by
        by_cases e : j = k
        · rw [e]; exact hq
        · exact hhi j (by omega) h2)
      refine ⟨k', h1, h2, h3, fun r h => Ev.step (fun q => ?_) (h4 r h)⟩
      rw [spec_MixRecipes.l1, if_pos (by omega), w1.out, if_pos (by omega), if_pos (by omega), e0, hq, if_pos rfl]
    | false =>
      refine ⟨k + 1, hk, .inr (by rw [Nat.add_sub_cancel]; exact hq), hhi, fun r h => Ev.step (fun q => ?_) h⟩
      rw [spec_MixRecipes.l1, if_pos (by omega), w1.out, if_pos (by omega), if_pos (by omega), e0, hq, if_neg Bool.false_ne_true, ei (k + 1) hk, Option.bind_some, w2.out]
set_option maxHeartbeats 2000000 in
theorem specMix_ev (a b : List DPt) (sh : Int) (ha : rcp a = true) (hb : rcp b = true) (hs : 0 ≤ sh ∧ sh ≤ 100) : Ev (fun k => spec_MixRecipes.f k a b sh) (mixW (mixL a b sh)) := by
  have la := (rcp_iff a ha).1
  have lb := (rcp_iff b hb).1
  unfold spec_MixRecipes.f
  refine Ev.bind (l7Good_ev a (by omega) (rcp_size a ha)) ?_
  simp only [ha, if_true]
  refine Ev.bind (l7Good_ev b (by omega) (rcp_size b hb)) ?_
  simp only [hb, if_true, l1In_eq, Option.bind_some, (rng_iff sh 0 100).2 hs, Bool.not_true]
  have hlen : (a ++ b).length ≤ 12 := by rw [List.length_append]; omega
  have hM := mixL_mix a b sh ha hb hs
  have hsz : ∀ x, x ∈ mixL a b sh → x.f0.size ≤ 1000 := fun x hx => by
    obtain ⟨⟨p, h1, h2⟩, _⟩ := (hM.2 x).1 hx
    rw [← h2]
    rcases List.mem_append.1 h1 with c | c
    · exact rcp_size a ha p c
    · exact rcp_size b hb p c
  refine Ev.step (f := fun k => spec_MixRecipes.l0 k a b sh [] (a ++ b) 0) (fun k => by
    rw [spec_MixRecipes.j0, if_neg Bool.false_ne_true, Option.bind_some, if_pos (by rw [List.length_nil]; omega), Option.bind_some, List.nil_append, if_pos (by omega)]) ?_
  obtain ⟨r, hr, h⟩ := Ev.loopE (fun k i (s : List DPt) => spec_MixRecipes.l0 k a b sh s (a ++ b) i) (a ++ b).length (fun i s => IsMixTo a b sh i s) (fun r => r = mixW (mixL a b sh))
    (fun s hsi => by
      have he := hsi.all.uniq hM
      subst he
      refine ⟨_, rfl, Ev.step (fun k => by rw [spec_MixRecipes.l0, if_neg (by omega)]) (Ev.bind (l7Good_ev _ (by have := mixL_len a b sh; omega) hsz) ?_)⟩
      unfold mixW
      cases rcp (mixL a b sh) with
      | false => simp only [Bool.false_eq_true, if_false]; exact Ev.now _
      | true => simp only [if_true]; exact Ev.now _)
    (fun i s hi hsi => by
      have e0 : rd_T53 (a ++ b) (i : Int) = (a ++ b).getD i z53 := rfl
      obtain ⟨st, hst⟩ : ∃ st, st = ((a ++ b).getD i z53).f0 := ⟨_, rfl⟩
      have hb1 := mS_rng a b sh (rcp_f1 a ha) (rcp_f1 b hb) hs st.toList
      obtain ⟨pa, hpa⟩ : ∃ pa, pa = ofS a st.toList * (100 - sh) := ⟨_, rfl⟩
      obtain ⟨pb, hpb⟩ : ∃ pb, pb = ofS b st.toList * sh := ⟨_, rfl⟩
      have hsum : mS a b sh st.toList = pa + pb := by rw [hpa, hpb]; rfl
      rw [← hpa, ← hpb] at hb1
      have hn : nS a b sh st.toList = (mS a b sh st.toList + 99) / 100 := rfl
      have hnp := mS_pos a b sh (rcp_f1 a ha) (rcp_f1 b hb) hs st.toList
      have hsl := hsi.2.2
      have w0 : Aside0 (wrap64 (100 - sh) = 100 - sh) := ⟨wrap_id _ (by omega) (by omega)⟩
      have w2 : Aside0 (wrap64 ((i : Int) + 1) = (i : Int) + 1) := ⟨wrap_id _ (by omega) (by omega)⟩
      have wn : Aside0 (wrap64 (Int.tdiv (wrap64 (wrap64 (wrap64 (ofS a st.toList * (100 - sh)) + wrap64 (ofS b st.toList * sh)) + 99)) 100) = nS a b sh st.toList) := ⟨by
        rw [← hpa, ← hpb, wrap_id pa (by omega) (by omega), wrap_id pb (by omega) (by omega), ← hsum, wrap_id (mS a b sh st.toList) (by omega) (by omega), wrap_id (mS a b sh st.toList + 99) (by omega) (by omega), Int.tdiv_eq_ediv_of_nonneg (by omega), ← hn, wrap_id _ (by omega) (by omega)]⟩
      have o1 := l7Of_ev a st (by omega)
      have o2 := l7Of_ev b st (by omega)
      have o3 := l7Of_ev s st (by omega)
      have start : ∀ {r}, Ev (fun k => if nS a b sh st.toList = 0 then (spec_MixRecipes.j2 k a b sh s (a ++ b) (i : Int) st (nS a b sh st.toList) true) else ((spec_l7Of.f k s st).bind fun t273 => (spec_MixRecipes.j2 k a b sh s (a ++ b) (i : Int) st (nS a b sh st.toList) (decide (t273 > 0))))) r → Ev (fun k => spec_MixRecipes.l0 k a b sh s (a ++ b) (i : Int)) r := fun {r} h => by
        refine Ev.step (f := fun k => (spec_l7Of.f k a st).bind fun t271 => ((spec_l7Of.f k b st).bind fun t272 => (if (wrap64 (Int.tdiv (wrap64 ((wrap64 ((wrap64 (t271 * (wrap64 (100 - sh)))) + (wrap64 (t272 * sh)))) + 99)) 100)) = 0 then (spec_MixRecipes.j2 k a b sh s (a ++ b) (i : Int) st (wrap64 (Int.tdiv (wrap64 ((wrap64 ((wrap64 (t271 * (wrap64 (100 - sh)))) + (wrap64 (t272 * sh)))) + 99)) 100)) true) else ((spec_l7Of.f k s st).bind fun t273 => (spec_MixRecipes.j2 k a b sh s (a ++ b) (i : Int) st (wrap64 (Int.tdiv (wrap64 ((wrap64 ((wrap64 (t271 * (wrap64 (100 - sh)))) + (wrap64 (t272 * sh)))) + 99)) 100)) (decide (t273 > 0))))))) (fun k => by
          rw [spec_MixRecipes.l0, if_pos (by omega), if_pos (by omega), e0, ← hst]) ?_
        refine Ev.bind o1 (Ev.bind o2 ?_)
        simp only [w0.out, wn.out]
        exact h
      have jt : ∀ {r}, Ev (fun k => spec_MixRecipes.l0 k a b sh s (a ++ b) ((i : Int) + 1)) r → Ev (fun k => spec_MixRecipes.j2 k a b sh s (a ++ b) (i : Int) st (nS a b sh st.toList) true) r := fun {r} h => Ev.step (fun k => by rw [spec_MixRecipes.j2, if_pos rfl, w2.out]) h
      by_cases c0 : nS a b sh st.toList = 0
      · refine ⟨s, hsi.skip hi (.inl (by rw [← hst]; omega)), fun r h => start ?_⟩
        simp only [if_pos c0]
        exact jt h
      · by_cases c1 : 0 < ofS s st.toList
        · refine ⟨s, hsi.skip hi (.inr (by rw [← hst]; exact c1)), fun r h => start ?_⟩
          simp only [if_neg c0]
          refine Ev.bind o3 ?_
          rw [decide_eq_true (show ofS s st.toList > 0 from c1)]
          exact jt h
        · obtain ⟨k', h1, h2, h3, h4⟩ := ins_ev a b sh s (a ++ b) i st (nS a b sh st.toList) (by omega) (by omega) s.length (Nat.le_refl _) (fun j h1 h2 => absurd h2 (by omega))
          refine ⟨s.take k' ++ [⟨st, nS a b sh st.toList⟩] ++ s.drop k', ?_, fun r h => start ?_⟩
          · have := hsi.put (k := k') hi (by rw [← hst]; omega) (by rw [← hst]; exact c1) h1 (by rw [← hst]; exact h2) (by rw [← hst]; exact h3)
            rw [← hst] at this
            exact this
          · simp only [if_neg c0]
            refine Ev.bind o3 ?_
            rw [decide_eq_false (show ¬ ofS s st.toList > 0 from c1)]
            exact Ev.step (fun k => by rw [spec_MixRecipes.j2, if_neg Bool.false_ne_true]) (h4 r h)) [] (IsMixTo.zero a b sh)
  subst hr
  exact h
theorem mixBad (a b : List DPt) (sh : Int) (ha : a.length ≤ 1000) (hb : b.length ≤ 1000) (hza : ∀ x ∈ a, x.f0.size ≤ 1000) (hzb : ∀ x ∈ b, x.f0.size ≤ 1000) (h : ¬ (rcp a = true ∧ rcp b = true ∧ rng sh 0 100 = true)) : Ev (fun k => impl_MixRecipes.f k a b sh) ([], false) ∧ Ev (fun k => spec_MixRecipes.f k a b sh) ([], false) := by
  have i0 : Ev (fun k => impl_MixRecipes.j0 k a b sh true) ([], false) := Ev.step (f := fun _ => some ([], false)) (fun k => by rw [impl_MixRecipes.j0, if_pos rfl]) (Ev.now _)
  have s0 : Ev (fun k => spec_MixRecipes.j0 k a b sh true) ([], false) := Ev.step (f := fun _ => some ([], false)) (fun k => by rw [spec_MixRecipes.j0, if_pos rfl]) (Ev.now _)
  unfold impl_MixRecipes.f spec_MixRecipes.f
  constructor
  · refine Ev.bind (IsRecipe_ev a ha) ?_
    cases h1 : rcp a with
    | false => simp only [Bool.false_eq_true, if_false]; exact i0
    | true =>
      simp only [if_true]
      refine Ev.bind (IsRecipe_ev b hb) ?_
      cases h2 : rcp b with
      | false => simp only [Bool.false_eq_true, if_false]; exact i0
      | true =>
        simp only [if_true, in_eq, Option.bind_some]
        cases h3 : rng sh 0 100 with
        | false => exact i0
        | true => exact absurd ⟨h1, h2, h3⟩ h
  · refine Ev.bind (l7Good_ev a ha hza) ?_
    cases h1 : rcp a with
    | false => simp only [Bool.false_eq_true, if_false]; exact s0
    | true =>
      simp only [if_true]
      refine Ev.bind (l7Good_ev b hb hzb) ?_
      cases h2 : rcp b with
      | false => simp only [Bool.false_eq_true, if_false]; exact s0
      | true =>
        simp only [if_true, l1In_eq, Option.bind_some]
        cases h3 : rng sh 0 100 with
        | false => exact s0
        | true => exact absurd ⟨h1, h2, h3⟩ h
def mixV (a b : List DPt) (sh : Int) : List DPt × Bool := if rcp a = true ∧ rcp b = true ∧ rng sh 0 100 = true then mixW (mixL a b sh) else ([], false)
theorem mix_both (a b : List DPt) (sh : Int) (ha : a.length ≤ 1000) (hb : b.length ≤ 1000) (hza : ∀ x ∈ a, x.f0.size ≤ 1000) (hzb : ∀ x ∈ b, x.f0.size ≤ 1000) : Ev (fun k => impl_MixRecipes.f k a b sh) (mixV a b sh) ∧ Ev (fun k => spec_MixRecipes.f k a b sh) (mixV a b sh) := by
  unfold mixV
  by_cases h : rcp a = true ∧ rcp b = true ∧ rng sh 0 100 = true
  · rw [if_pos h]
    exact ⟨implMix_ev a b sh h.1 h.2.1 ((rng_iff _ _ _).1 h.2.2), specMix_ev a b sh h.1 h.2.1 ((rng_iff _ _ _).1 h.2.2)⟩
  · rw [if_neg h]
    exact mixBad a b sh ha hb hza hzb h
theorem mixV_yes (a b : List DPt) (sh : Int) (h : (mixV a b sh).2 = true) : (rcp a = true ∧ rcp b = true ∧ (0 ≤ sh ∧ sh ≤ 100)) ∧ (mixV a b sh).1 = mixL a b sh ∧ rcp (mixL a b sh) = true ∧ mixV b a (100 - sh) = (mixL a b sh, true) ∧ mixV a b 0 = (a, true) := by
  unfold mixV at h ⊢
  by_cases c : rcp a = true ∧ rcp b = true ∧ rng sh 0 100 = true
  · rw [if_pos c] at h ⊢
    have hs := (rng_iff _ _ _).1 c.2.2
    unfold mixW at h
    by_cases c2 : rcp (mixL a b sh) = true
    · have e1 : mixL b a (100 - sh) = mixL a b sh := (mixL_mix b a (100 - sh) c.2.1 c.1 (by omega)).uniq (mixL_mix a b sh c.1 c.2.1 hs).comm
      have e2 : mixL a b 0 = a := (mixL_mix a b 0 c.1 c.2.1 (by omega)).uniq (IsMix.first a b (rcp_pair a c.1) (rcp_f1 a c.1))
      refine ⟨⟨c.1, c.2.1, hs⟩, ?_, c2, ?_, ?_⟩
      · unfold mixW; rw [if_pos c2]
      · rw [if_pos ⟨c.2.1, c.1, (rng_iff _ _ _).2 (by omega)⟩, e1]
        unfold mixW; rw [if_pos c2]
      · rw [if_pos ⟨c.1, c.2.1, (rng_iff _ _ _).2 (by omega)⟩, e2]
        unfold mixW; rw [if_pos c.1]
    · rw [if_neg c2] at h; cases h
  · rw [if_neg c] at h; cases h
theorem low8 (y : Int) : 0 ≤ Go.bits .and .u64 y 255 ∧ Go.bits .and .u64 y 255 ≤ 255 := by
  have h : ((BitVec.ofInt 64 y) &&& (BitVec.ofInt 64 255)).toNat ≤ 255 := by
    rw [BitVec.toNat_and]
    exact Nat.le_trans Nat.and_le_right (by decide)
  have e : Go.bits .and .u64 y 255 = IntKind.u64.wrap ((((BitVec.ofInt 64 y) &&& (BitVec.ofInt 64 255)).toNat : Nat) : Int) := rfl
  have e2 : ∀ n : Nat, n ≤ 255 → IntKind.u64.wrap (n : Int) = (n : Int) := fun n hn => by
    show (n : Int) % 18446744073709551616 = (n : Int)
    omega
  rw [e, e2 _ h]
  omega
def codeOk (code : List Int) : Prop := code.length ≤ 70000 ∧ ∀ i : Int, 0 ≤ rd code i ∧ rd code i ≤ 255
theorem codeOk_of (code : List Int) (hl : code.length ≤ 70000) (h : ∀ x ∈ code, (Lit.int .u8 x).wf = true) : codeOk code := by
  refine ⟨hl, fun i => ?_⟩
  unfold rd
  rw [List.getD_eq_getElem?_getD]
  by_cases c : i.toNat < code.length
  · rw [List.getElem?_eq_getElem c]
    have := h _ (List.getElem_mem c)
    have h3 : (decide (IntKind.u8.min ≤ code[i.toNat]) && decide (code[i.toNat] ≤ IntKind.u8.max)) = true := this
    rw [Bool.and_eq_true, decide_eq_true_iff, decide_eq_true_iff, show IntKind.u8.min = 0 by decide, show IntKind.u8.max = 255 by decide] at h3
    exact h3
  · rw [List.getElem?_eq_none (by omega)]
    exact ⟨by decide, by decide⟩
theorem next_ok (code : List Int) (hc : codeOk code) (at_ seed : Int) (h0 : 0 ≤ at_) (h1 : at_ ≤ 1000000) : ∃ x s, spec_l1Cur_next.f code at_ seed = some (x, at_ + 1, s) ∧ 0 ≤ x ∧ x ≤ 255 := by
  have hw : wrap64 (at_ + 1) = at_ + 1 := wrap_id _ (by omega) (by omega)
  have hb := hc.2 at_
  unfold spec_l1Cur_next.f
  rw [hw]
  by_cases c : at_ < (code.length : Int)
  · rw [if_pos c, if_pos h0, if_pos (by omega)]
    exact ⟨_, _, rfl, by rw [wrap_id _ (by omega) (by omega)]; exact hb⟩
  · rw [if_neg c, if_neg (by omega)]
    refine ⟨_, _, rfl, ?_⟩
    have := low8 ((IntKind.u64.wrap ((IntKind.u64.wrap ((IntKind.u64.wrap (seed * 6364136223846793005)))) + 102323)) / 1099511627776)
    rw [wrap_id _ (by omega) (by omega)]
    exact this
theorem pick_ok (code : List Int) (hc : codeOk code) (at_ seed n : Int) (h0 : 0 ≤ at_) (h1 : at_ ≤ 900000) (hn : n ≤ 1000000) : ∃ x a s, spec_l1Cur_pick.f code at_ seed n = some (x, a, s) ∧ 0 ≤ x ∧ (x < n ∨ x = 0) ∧ at_ ≤ a ∧ a ≤ at_ + 2 := by
  unfold spec_l1Cur_pick.f
  by_cases c : n ≤ 1
  · exact ⟨0, at_, seed, by rw [if_pos c], by omega, .inr rfl, by omega, by omega⟩
  · rw [if_neg c]
    obtain ⟨x, s, e, x0, x1⟩ := next_ok code hc at_ seed h0 (by omega)
    rw [e, Option.bind_some]
    dsimp only
    by_cases c2 : n > 200
    · rw [if_pos c2]
      obtain ⟨y, s2, e2, y0, y1⟩ := next_ok code hc (at_ + 1) s (by omega) (by omega)
      rw [e2, Option.bind_some, if_neg (by omega)]
      dsimp only
      rw [wrap_id (x * 256) (by omega) (by omega), wrap_id (x * 256 + y) (by omega) (by omega)]
      exact ⟨_, _, _, rfl, Int.tmod_nonneg _ (by omega), .inl (Int.tmod_lt_of_pos _ (by omega)), by omega, by omega⟩
    · rw [if_neg c2, if_neg (by omega)]
      exact ⟨_, _, _, rfl, Int.tmod_nonneg _ x0, .inl (Int.tmod_lt_of_pos _ (by omega)), by omega, by omega⟩
theorem one_ok (code : List Int) (hc : codeOk code) (at_ seed n : Int) (h0 : 0 ≤ at_) (h1 : at_ ≤ 900000) (hn : n ≤ 1000000) : ∃ x a s, spec_l1Cur_one.f code at_ seed n = some (x, a, s) ∧ at_ ≤ a ∧ a ≤ at_ + 2 := by
  unfold spec_l1Cur_one.f
  obtain ⟨x, a, s, e, _, _, a0, a1⟩ := pick_ok code hc at_ seed n h0 h1 hn
  rw [e, Option.bind_some]
  exact ⟨_, a, s, rfl, a0, a1⟩
theorem of_ok (code : List Int) (hc : codeOk code) (at_ seed : Int) (l : List ByteArray) (hl : 0 < l.length ∧ l.length ≤ 1000) (h0 : 0 ≤ at_) (h1 : at_ ≤ 900000) : ∃ x a s, spec_l1Cur_of.f code at_ seed l = some (x, a, s) ∧ x ∈ l ∧ at_ ≤ a ∧ a ≤ at_ + 2 := by
  unfold spec_l1Cur_of.f
  obtain ⟨x, a, s, e, x0, x1, a0, a1⟩ := pick_ok code hc at_ seed (l.length : Int) h0 h1 (by omega)
  rw [e, Option.bind_some]
  dsimp only
  have hx : x < (l.length : Int) := by omega
  rw [if_pos x0, if_pos hx]
  refine ⟨_, a, s, rfl, ?_, a0, a1⟩
  show l.getD x.toNat ByteArray.empty ∈ l
  rw [List.getD_eq_getElem?_getD, List.getElem?_eq_getElem (by omega)]
  exact List.getElem_mem (by omega)
theorem among_ok (code : List Int) (hc : codeOk code) (at_ seed : Int) (l : List Int) (hl : 0 < l.length ∧ l.length ≤ 1000) (h0 : 0 ≤ at_) (h1 : at_ ≤ 900000) : ∃ x a s, spec_l1Cur_among.f code at_ seed l = some (x, a, s) ∧ x ∈ l ∧ at_ ≤ a ∧ a ≤ at_ + 2 := by
  unfold spec_l1Cur_among.f
  obtain ⟨x, a, s, e, x0, x1, a0, a1⟩ := pick_ok code hc at_ seed (l.length : Int) h0 h1 (by omega)
  rw [e, Option.bind_some]
  dsimp only
  have hx : x < (l.length : Int) := by omega
  rw [if_pos x0, if_pos hx]
  refine ⟨_, a, s, rfl, ?_, a0, a1⟩
  show l.getD x.toNat 0 ∈ l
  rw [List.getD_eq_getElem?_getD, List.getElem?_eq_getElem (by omega)]
  exact List.getElem_mem (by omega)
def szR (n : Nat) (l : List DPt) : Prop := l.length ≤ n ∧ ∀ x ∈ l, x.f0.size ≤ 100
theorem szR_add (n : Nat) (l : List DPt) (x : DPt) (h : szR n l) (hx : x.f0.size ≤ 100) : szR (n + 1) (l ++ [x]) := by
  refine ⟨by rw [List.length_append, List.length_singleton]; have := h.1; omega, fun y hy => ?_⟩
  rcases List.mem_append.1 hy with hy | hy
  · exact h.2 y hy
  · rw [List.mem_singleton.1 hy]; exact hx
theorem szR_set (n : Nat) (l : List DPt) (i : Nat) (x : DPt) (h : szR n l) (hx : x.f0.size ≤ 100) : szR n (l.set i x) := by
  refine ⟨by rw [List.length_set]; exact h.1, fun y hy => ?_⟩
  rcases List.mem_or_eq_of_mem_set hy with hy | hy
  · exact h.2 y hy
  · rw [hy]; exact hx
theorem szR_le (n m : Nat) (l : List DPt) (h : szR n l) (hm : n ≤ m) : szR m l := ⟨Nat.le_trans h.1 hm, h.2⟩
theorem recipe_l1 (code : List Int) (hc : codeOk code) (B : Int) (hB : 0 ≤ B ∧ B ≤ 200000) (d : Nat) : ∀ (i : Nat) (at_ seed : Int) (xs : List DPt), i + d = 8 → xs.length = i → szR 12 xs → 0 ≤ at_ → at_ + 2 * (d : Int) ≤ B + 90000 → ∃ (ys : List DPt) (a s : Int), szR 12 ys ∧ (0 ≤ a ∧ a ≤ B + 90010) ∧ Ev (fun k => spec_l1Cur_recipe.l1 k xs (i : Int) code at_ seed) (ys, a, s) := by
  induction d with
  | zero =>
    intro i at_ seed xs hi hx hz a0 a1
    obtain ⟨y, b, t, e, y0, y1, u, v⟩ := pick_ok code hc at_ seed 2 a0 (by omega) (by omega)
    refine ⟨xs, b, t, hz, ⟨by omega, by omega⟩, Ev.step (f := fun _ => some (xs, b, t)) (fun k => ?_) (Ev.now _)⟩
    rw [spec_l1Cur_recipe.l1, e, Option.bind_some]
    dsimp only
    rw [wrap_id (6 + y) (by omega) (by omega), if_neg (by omega)]
  | succ d ih =>
    intro i at_ seed xs hi hx hz a0 a1
    obtain ⟨y, b, t, e, y0, y1, u, v⟩ := pick_ok code hc at_ seed 2 a0 (by omega) (by omega)
    by_cases c : (i : Int) < 6 + y
    · obtain ⟨ys, a, s, z1, z2, z3⟩ := ih (i + 1) b t (xs ++ [⟨strOfNums [wrap64 (97 + (i : Int)) % 256], 5⟩]) (by omega) (by rw [List.length_append, List.length_singleton]; omega) (by
        have := szR_add 11 xs ⟨strOfNums [wrap64 (97 + (i : Int)) % 256], 5⟩ ⟨by omega, hz.2⟩ (by show (strOfNums _).size ≤ 100; rw [strOfNums_size, List.length_singleton]; omega)
        exact this) (by omega) (by omega)
      refine ⟨ys, a, s, z1, z2, Ev.step (fun k => ?_) z3⟩
      rw [spec_l1Cur_recipe.l1, e, Option.bind_some]
      dsimp only
      rw [wrap_id (6 + y) (by omega) (by omega), if_pos c, if_pos (by omega), wrap_id ((i : Int) + 1) (by omega) (by omega)]
      rfl
    · refine ⟨xs, b, t, hz, ⟨by omega, by omega⟩, Ev.step (f := fun _ => some (xs, b, t)) (fun k => ?_) (Ev.now _)⟩
      rw [spec_l1Cur_recipe.l1, e, Option.bind_some]
      dsimp only
      rw [wrap_id (6 + y) (by omega) (by omega), if_neg c]
def badL : List ByteArray := [(⟨#[]⟩ : ByteArray), (⟨#[65]⟩ : ByteArray), (⟨#[122, 105, 110, 99]⟩ : ByteArray)]
theorem bad_size : ∀ x ∈ badL, x.size ≤ 10 := by decide
theorem recipe_j2 (code : List Int) (hc : codeOk code) (B : Int) (hB : 0 ≤ B ∧ B ≤ 200000) (at_ seed : Int) (xs : List DPt) (hz : szR 6 xs) (a0 : 0 ≤ at_) (a1 : at_ ≤ B + 50000) : ∃ (ys : List DPt) (a s : Int), szR 12 ys ∧ (0 ≤ a ∧ a ≤ B + 90010) ∧ Ev (fun k => spec_l1Cur_recipe.j2 k xs code at_ seed) (ys, a, s) := by
  have hz' := szR_le 6 12 xs hz (by omega)
  by_cases h0 : (xs.length : Int) = 0
  · exact ⟨xs, at_, seed, hz', ⟨by omega, by omega⟩, Ev.step (f := fun _ => some (xs, at_, seed)) (fun k => by rw [spec_l1Cur_recipe.j2, if_pos h0]) (Ev.now _)⟩
  · have hl := hz.1
    obtain ⟨x, b1, s1, e1, x0, x1, u1, v1⟩ := pick_ok code hc at_ seed (xs.length : Int) a0 (by omega) (by omega)
    obtain ⟨y, b2, s2, e2, y0, y1, u2, v2⟩ := pick_ok code hc b1 s1 40 (by omega) (by omega) (by omega)
    have hxl : x < (xs.length : Int) := by omega
    have hmem : rd_T53 xs x ∈ xs := getD_mem z53 xs x.toNat (by omega)
    have hxs := hz.2 _ hmem
    by_cases c0 : y = 0
    · obtain ⟨w, b3, s3, e3, m3, u3, v3⟩ := of_ok code hc b2 s2 badL (by decide) (by omega) (by omega)
      unfold badL at e3
      refine ⟨xs.set x.toNat ⟨w, (rd_T53 xs x).f1⟩, b3, s3, szR_set 12 xs _ _ hz' (by have := bad_size w m3; show w.size ≤ 100; omega), ⟨by omega, by omega⟩, Ev.step (f := fun _ => some (xs.set x.toNat ⟨w, (rd_T53 xs x).f1⟩, b3, s3)) (fun k => ?_) (Ev.now _)⟩
      rw [spec_l1Cur_recipe.j2, if_neg h0, e1, Option.bind_some]
      dsimp only
      rw [if_pos x0, if_pos hxl, e2, Option.bind_some]
      dsimp only
      rw [if_pos c0, e3, Option.bind_some]
    · by_cases c1 : y = 1
      · obtain ⟨w, b3, s3, e3, m3, u3, v3⟩ := among_ok code hc b2 s2 [0, 1001] (by decide) (by omega) (by omega)
        refine ⟨xs.set x.toNat ⟨(rd_T53 xs x).f0, w⟩, b3, s3, szR_set 12 xs _ _ hz' hxs, ⟨by omega, by omega⟩, Ev.step (f := fun _ => some (xs.set x.toNat ⟨(rd_T53 xs x).f0, w⟩, b3, s3)) (fun k => ?_) (Ev.now _)⟩
        rw [spec_l1Cur_recipe.j2, if_neg h0, e1, Option.bind_some]
        dsimp only
        rw [if_pos x0, if_pos hxl, e2, Option.bind_some]
        dsimp only
        rw [if_neg c0, if_pos c1, e3, Option.bind_some]
      · by_cases c2 : y = 2
        · obtain ⟨ys, a, s, z1, z2, z3⟩ := recipe_l1 code hc B hB 8 0 b2 s2 [] (by omega) rfl ⟨by rw [List.length_nil]; omega, fun x hx => absurd hx (List.not_mem_nil)⟩ (by omega) (by omega)
          refine ⟨ys, a, s, z1, z2, Ev.step (fun k => ?_) z3⟩
          rw [spec_l1Cur_recipe.j2, if_neg h0, e1, Option.bind_some]
          dsimp only
          rw [if_pos x0, if_pos hxl, e2, Option.bind_some]
          dsimp only
          rw [if_neg c0, if_neg c1, if_pos c2]
          rfl
        · refine ⟨xs.set x.toNat ⟨(rd_T53 xs x).f0, (rd_T53 xs x).f1⟩, b2, s2, szR_set 12 xs _ _ hz' hxs, ⟨by omega, by omega⟩, Ev.step (f := fun _ => some (xs.set x.toNat ⟨(rd_T53 xs x).f0, (rd_T53 xs x).f1⟩, b2, s2)) (fun k => ?_) (Ev.now _)⟩
          rw [spec_l1Cur_recipe.j2, if_neg h0, e1, Option.bind_some]
          dsimp only
          rw [if_pos x0, if_pos hxl, e2, Option.bind_some]
          dsimp only
          rw [if_neg c0, if_neg c1, if_neg c2]
theorem recipe_j1 (code : List Int) (hc : codeOk code) (B : Int) (hB : 0 ≤ B ∧ B ≤ 200000) (at_ seed : Int) (xs : List DPt) (o : Bool) (hz : szR 5 xs) (a0 : 0 ≤ at_) (a1 : at_ ≤ B + 50000) : ∃ (ys : List DPt) (a s : Int), szR 12 ys ∧ (0 ≤ a ∧ a ≤ B + 90010) ∧ Ev (fun k => spec_l1Cur_recipe.j1 k xs o code at_ seed) (ys, a, s) := by
  cases o with
  | false =>
    obtain ⟨ys, a, s, z1, z2, z3⟩ := recipe_j2 code hc B hB at_ seed xs (szR_le 5 6 xs hz (by omega)) a0 a1
    exact ⟨ys, a, s, z1, z2, Ev.step (fun k => by rw [spec_l1Cur_recipe.j1, if_neg Bool.false_ne_true]) z3⟩
  | true =>
    have hl := hz.1
    obtain ⟨ys, a, s, z1, z2, z3⟩ := recipe_j2 code hc B hB at_ seed (xs ++ [⟨(⟨#[97, 108, 117, 109]⟩ : ByteArray), 100⟩]) (szR_add 5 xs _ hz (by show (⟨#[97, 108, 117, 109]⟩ : ByteArray).size ≤ 100; decide)) a0 a1
    exact ⟨ys, a, s, z1, z2, Ev.step (fun k => by rw [spec_l1Cur_recipe.j1, if_pos rfl, if_pos (by omega)]) z3⟩
def dyesL : List ByteArray := [(⟨#[97, 108, 117, 109]⟩ : ByteArray), (⟨#[105, 110, 100, 105, 103, 111]⟩ : ByteArray), (⟨#[108, 105, 109, 101]⟩ : ByteArray), (⟨#[109, 97, 100, 100, 101, 114]⟩ : ByteArray), (⟨#[119, 101, 108, 100]⟩ : ByteArray)]
theorem dyes_size : ∀ x ∈ dyesL, x.size ≤ 10 := by decide
theorem recipe_l0 (code : List Int) (hc : codeOk code) (B : Int) (hB : 0 ≤ B ∧ B ≤ 200000) (d : Nat) : ∀ (i : Nat) (at_ seed : Int) (xs : List DPt), i + d = 5 → szR i xs → 0 ≤ at_ → at_ + 4 * (d : Int) ≤ B + 49000 → ∃ (ys : List DPt) (a s : Int), szR 12 ys ∧ (0 ≤ a ∧ a ≤ B + 90010) ∧ Ev (fun k => spec_l1Cur_recipe.l0 k xs dyesL (i : Int) code at_ seed) (ys, a, s) := by
  have hdl : dyesL.length = 5 := rfl
  induction d with
  | zero =>
    intro i at_ seed xs hi hz a0 a1
    by_cases h0 : (xs.length : Int) = 0
    · obtain ⟨o, b, t, e, u, v⟩ := one_ok code hc at_ seed 6 a0 (by omega) (by omega)
      obtain ⟨ys, a, s, z1, z2, z3⟩ := recipe_j1 code hc B hB b t xs (!o) (szR_le i 5 xs hz (by omega)) (by omega) (by omega)
      refine ⟨ys, a, s, z1, z2, Ev.step (fun k => ?_) z3⟩
      rw [spec_l1Cur_recipe.l0, hdl, if_neg (by omega), if_pos h0, e, Option.bind_some]
    · obtain ⟨ys, a, s, z1, z2, z3⟩ := recipe_j1 code hc B hB at_ seed xs false (szR_le i 5 xs hz (by omega)) (by omega) (by omega)
      refine ⟨ys, a, s, z1, z2, Ev.step (fun k => ?_) z3⟩
      rw [spec_l1Cur_recipe.l0, hdl, if_neg (by omega), if_neg h0]
  | succ d ih =>
    intro i at_ seed xs hi hz a0 a1
    have hl := hz.1
    obtain ⟨o, b, t, e, u, v⟩ := one_ok code hc at_ seed 2 a0 (by omega) (by omega)
    cases o with
    | false =>
      obtain ⟨ys, a, s, z1, z2, z3⟩ := ih (i + 1) b t xs (by omega) (szR_le i (i + 1) xs hz (by omega)) (by omega) (by omega)
      refine ⟨ys, a, s, z1, z2, Ev.step (fun k => ?_) z3⟩
      rw [spec_l1Cur_recipe.l0, hdl, if_pos (by omega), e, Option.bind_some]
      dsimp only
      rw [if_neg Bool.false_ne_true, wrap_id ((i : Int) + 1) (by omega) (by omega)]
      rfl
    | true =>
      obtain ⟨w, b2, t2, e2, m2, u2, v2⟩ := among_ok code hc b t [1, 50, 333, 1000] (by decide) (by omega) (by omega)
      have hm : rdOf ByteArray.empty dyesL (i : Int) ∈ dyesL := by
        show dyesL.getD i ByteArray.empty ∈ dyesL
        rw [List.getD_eq_getElem?_getD, List.getElem?_eq_getElem (by omega)]
        exact List.getElem_mem (by omega)
      obtain ⟨ys, a, s, z1, z2, z3⟩ := ih (i + 1) b2 t2 (xs ++ [⟨rdOf ByteArray.empty dyesL (i : Int), w⟩]) (by omega) (szR_add i xs _ hz (by have := dyes_size _ hm; show (rdOf ByteArray.empty dyesL (i : Int)).size ≤ 100; omega)) (by omega) (by omega)
      refine ⟨ys, a, s, z1, z2, Ev.step (fun k => ?_) z3⟩
      rw [spec_l1Cur_recipe.l0, hdl, if_pos (by omega), e, Option.bind_some]
      dsimp only
      rw [if_pos rfl, if_pos (by omega), e2, Option.bind_some]
      dsimp only
      rw [if_pos (by omega), wrap_id ((i : Int) + 1) (by omega) (by omega)]
      rfl
theorem recipe_okB (code : List Int) (hc : codeOk code) (B : Int) (hB : 0 ≤ B ∧ B ≤ 200000) (at_ seed : Int) (a0 : 0 ≤ at_) (a1 : at_ ≤ B + 40000) : ∃ (ys : List DPt) (a s : Int), szR 12 ys ∧ (0 ≤ a ∧ a ≤ B + 90010) ∧ Ev (fun k => spec_l1Cur_recipe.f k code at_ seed) (ys, a, s) := by
  obtain ⟨ys, a, s, z1, z2, z3⟩ := recipe_l0 code hc B hB 5 0 at_ seed [] (by omega) ⟨Nat.le_refl _, fun x hx => absurd hx (List.not_mem_nil)⟩ a0 (by omega)
  exact ⟨ys, a, s, z1, z2, z3⟩
theorem recipe_ok (code : List Int) (hc : codeOk code) (at_ seed : Int) (a0 : 0 ≤ at_) (a1 : at_ ≤ 40000) : ∃ (ys : List DPt) (a s : Int), szR 12 ys ∧ (0 ≤ a ∧ a ≤ 90010) ∧ Ev (fun k => spec_l1Cur_recipe.f k code at_ seed) (ys, a, s) := by
  obtain ⟨ys, a, s, z1, z2, z3⟩ := recipe_okB code hc 0 (by omega) at_ seed a0 (by omega)
  exact ⟨ys, a, s, z1, by omega, z3⟩
theorem cut_ok (code : List Int) (hc : codeOk code) (at_ seed : Int) (y : List Int) (b : Int) (hb : 1 ≤ b ∧ b + 2 ≤ (y.length : Int)) (hy : y.length ≤ 1000) (h0 : 0 ≤ at_) (h1 : at_ ≤ 800000) : ∃ x a s v c t, spec_l1Cur_pick.f code at_ seed 24 = some (x, a, s) ∧ wrap64 (b + wrap64 (Int.tdiv x 11)) = c ∧ 0 ≤ c ∧ c ≤ (y.length : Int) ∧ (∃ a2, spec_l1Cur_among.f code a s (y.take c.toNat) = some (v, a2, t) ∧ at_ ≤ a2 ∧ a2 ≤ at_ + 4) := by
  obtain ⟨x, a, s, e, x0, x1, a0, a1⟩ := pick_ok code hc at_ seed 24 h0 (by omega) (by omega)
  have hd0 : 0 ≤ Int.tdiv x 11 := Int.tdiv_nonneg x0 (by decide)
  have hd1 : Int.tdiv x 11 ≤ 2 := by
    rw [Int.tdiv_eq_ediv_of_nonneg x0]
    omega
  have ew : wrap64 (b + wrap64 (Int.tdiv x 11)) = b + Int.tdiv x 11 := by
    rw [wrap_id (Int.tdiv x 11) (by omega) (by omega), wrap_id _ (by omega) (by omega)]
  have hlen : (y.take (b + Int.tdiv x 11).toNat).length = (b + Int.tdiv x 11).toNat := by rw [List.length_take]; omega
  obtain ⟨v, a2, t, e2, _, b0, b1⟩ := among_ok code hc a s (y.take (b + Int.tdiv x 11).toNat) ⟨by omega, by omega⟩ (by omega) (by omega)
  exact ⟨x, a, s, v, b + Int.tdiv x 11, t, e, ew, by omega, by omega, a2, e2, by omega, by omega⟩
theorem bath_l0 (code : List Int) (hc : codeOk code) (l : List DPt) (hl : l.length ≤ 12) (A B C : Int) (d : Nat) : ∀ (i : Nat) (at_ seed : Int) (ss : List Int), i + d = l.length → ss.length = i → 0 ≤ at_ → at_ + 2 * (d : Int) ≤ 200000 → ∃ (a b c : Int) (s : List Int) (p q : Int), s.length ≤ 13 ∧ (0 ≤ p ∧ p ≤ 200010) ∧ Ev (fun k => spec_l1Cur_bath.l0 k l (i : Int) code at_ seed A B C ss) (a, b, c, s, p, q) := by
  induction d with
  | zero =>
    intro i at_ seed ss hi hs a0 a1
    obtain ⟨y, b1, s1, e1, y0, y1, u1, v1⟩ := pick_ok code hc at_ seed 50 a0 (by omega) (by omega)
    have start : ∀ (k : Nat) {R : Option (Int × Int × Int × List Int × Int × Int)}, (if y = 0 then ((spec_l1Cur_among.f code b1 s1 (([0, 501] : List Int))).bind fun bt214 => (some (bt214.1, B, C, ss, bt214.2.1, bt214.2.2))) else (if y = 1 then ((spec_l1Cur_among.f code b1 s1 (([(-1), 101] : List Int))).bind fun bt220 => (some (A, bt220.1, C, ss, bt220.2.1, bt220.2.2))) else (if y = 2 then ((spec_l1Cur_among.f code b1 s1 (([(-1), 50001] : List Int))).bind fun bt226 => (some (A, B, bt226.1, ss, bt226.2.1, bt226.2.2))) else (if y = 3 then (if ss.length < 17592186044416 then (some (A, B, C, (ss ++ [5]), b1, s1)) else (none)) else (if y = 4 then (if (ss.length : Int) > 0 then ((spec_l1Cur_among.f code b1 s1 (([(-1), 50001] : List Int))).bind fun bt235 => (if 0 < (ss.length : Int) then (some (A, B, C, (ss.set (0 : Int).toNat bt235.1), bt235.2.1, bt235.2.2)) else (none))) else (some (A, B, C, ss, b1, s1))) else (some (A, B, C, ss, b1, s1))))))) = R → spec_l1Cur_bath.l0 (k + 1) l (i : Int) code at_ seed A B C ss = R := fun k R h => by
      rw [spec_l1Cur_bath.l0, if_neg (by omega), e1, Option.bind_some]
      exact h
    by_cases c0 : y = 0
    · obtain ⟨w, b2, s2, e2, m2, u2, v2⟩ := among_ok code hc b1 s1 [0, 501] (by decide) (by omega) (by omega)
      exact ⟨w, B, C, ss, b2, s2, by omega, ⟨by omega, by omega⟩, Ev.step (f := fun _ => some (w, B, C, ss, b2, s2)) (fun k => start k (by rw [if_pos c0, e2, Option.bind_some])) (Ev.now _)⟩
    by_cases c1 : y = 1
    · obtain ⟨w, b2, s2, e2, m2, u2, v2⟩ := among_ok code hc b1 s1 [(-1), 101] (by decide) (by omega) (by omega)
      exact ⟨A, w, C, ss, b2, s2, by omega, ⟨by omega, by omega⟩, Ev.step (f := fun _ => some (A, w, C, ss, b2, s2)) (fun k => start k (by rw [if_neg c0, if_pos c1, e2, Option.bind_some])) (Ev.now _)⟩
    by_cases c2 : y = 2
    · obtain ⟨w, b2, s2, e2, m2, u2, v2⟩ := among_ok code hc b1 s1 [(-1), 50001] (by decide) (by omega) (by omega)
      exact ⟨A, B, w, ss, b2, s2, by omega, ⟨by omega, by omega⟩, Ev.step (f := fun _ => some (A, B, w, ss, b2, s2)) (fun k => start k (by rw [if_neg c0, if_neg c1, if_pos c2, e2, Option.bind_some])) (Ev.now _)⟩
    by_cases c3 : y = 3
    · exact ⟨A, B, C, ss ++ [5], b1, s1, by rw [List.length_append, List.length_singleton]; omega, ⟨by omega, by omega⟩, Ev.step (f := fun _ => some (A, B, C, ss ++ [5], b1, s1)) (fun k => start k (by rw [if_neg c0, if_neg c1, if_neg c2, if_pos c3, if_pos (by omega)])) (Ev.now _)⟩
    by_cases c4 : y = 4
    · by_cases h0 : (ss.length : Int) > 0
      · obtain ⟨w, b2, s2, e2, m2, u2, v2⟩ := among_ok code hc b1 s1 [(-1), 50001] (by decide) (by omega) (by omega)
        exact ⟨A, B, C, ss.set (0 : Int).toNat w, b2, s2, by rw [List.length_set]; omega, ⟨by omega, by omega⟩, Ev.step (f := fun _ => some (A, B, C, ss.set (0 : Int).toNat w, b2, s2)) (fun k => start k (by rw [if_neg c0, if_neg c1, if_neg c2, if_neg c3, if_pos c4, if_pos h0, e2, Option.bind_some, if_pos h0])) (Ev.now _)⟩
      · exact ⟨A, B, C, ss, b1, s1, by omega, ⟨by omega, by omega⟩, Ev.step (f := fun _ => some (A, B, C, ss, b1, s1)) (fun k => start k (by rw [if_neg c0, if_neg c1, if_neg c2, if_neg c3, if_pos c4, if_neg h0])) (Ev.now _)⟩
    · exact ⟨A, B, C, ss, b1, s1, by omega, ⟨by omega, by omega⟩, Ev.step (f := fun _ => some (A, B, C, ss, b1, s1)) (fun k => start k (by rw [if_neg c0, if_neg c1, if_neg c2, if_neg c3, if_neg c4])) (Ev.now _)⟩
  | succ d ih =>
    intro i at_ seed ss hi hs a0 a1
    obtain ⟨w, b2, s2, e2, m2, u2, v2⟩ := among_ok code hc at_ seed [0, 100, 334, 2000, 2000, 50000] (by decide) (by omega) (by omega)
    obtain ⟨a, b, c, s, p, q, z1, z2, z3⟩ := ih (i + 1) b2 s2 (ss ++ [w]) (by omega) (by rw [List.length_append, List.length_singleton]; omega) (by omega) (by omega)
    refine ⟨a, b, c, s, p, q, z1, z2, Ev.step (fun k => ?_) z3⟩
    rw [spec_l1Cur_bath.l0, if_pos (by omega), e2, Option.bind_some]
    dsimp only
    rw [if_pos (by omega), wrap_id ((i : Int) + 1) (by omega) (by omega)]
    rfl
theorem bath_ok (code : List Int) (hc : codeOk code) (l : List DPt) (hl : l.length ≤ 12) (at_ seed : Int) (a0 : 0 ≤ at_) (a1 : at_ ≤ 100000) : ∃ (a b c : Int) (s : List Int) (p q : Int), s.length ≤ 13 ∧ (0 ≤ p ∧ p ≤ 200010) ∧ Ev (fun k => spec_l1Cur_bath.f k code at_ seed l) (a, b, c, s, p, q) := by
  obtain ⟨x1, b1, s1, e1, _, u1, v1⟩ := among_ok code hc at_ seed [1, 20, 40, 100, 500] (by decide) a0 (by omega)
  obtain ⟨x2, b2, s2, e2, _, u2, v2⟩ := among_ok code hc b1 s1 [0, 60, 80, 80, 95, 96] (by decide) (by omega) (by omega)
  obtain ⟨x3, b3, s3, e3, _, u3, v3⟩ := among_ok code hc b2 s2 [0, 1, 1000, 1001, 2000, 50000] (by decide) (by omega) (by omega)
  obtain ⟨a, b, c, s, p, q, z1, z2, z3⟩ := bath_l0 code hc l hl x1 x2 x3 l.length 0 b3 s3 [] (by omega) rfl (by omega) (by omega)
  refine ⟨a, b, c, s, p, q, z1, z2, ?_⟩
  unfold spec_l1Cur_bath.f
  simp only [e1, e2, e3, Option.bind_some]
  exact z3
theorem yarn7_ok (code : List Int) (hc : codeOk code) (at_ seed : Int) (h0 : 0 ≤ at_) (h1 : at_ ≤ 800000) : ∃ v a s, spec_l1Cur_yarn7.f code at_ seed = some (v, a, s) ∧ at_ ≤ a ∧ a ≤ at_ + 4 := by
  obtain ⟨x, a, s3, w, c, t, e1, e2, c0, c1, a2, e3, u, v⟩ := cut_ok code hc at_ seed [0, 1, 999, 1000, 3500, 50000, (-1), 50001] 6 (by decide) (by decide) h0 h1
  refine ⟨w, a2, t, ?_, u, v⟩
  unfold spec_l1Cur_yarn7.f
  simp only [Option.bind_some, e1, e2, if_pos c0, if_pos c1, e3]
theorem drawMix (code : List Int) (hc : codeOk code) : ∃ (a b : List DPt) (sh : Int), szR 12 a ∧ szR 12 b ∧ Ev (fun k => spec_DrawMixRecipes.f k code) (a, b, sh) := by
  obtain ⟨a, p, q, h1, h2, h3⟩ := recipe_ok code hc 0 0 (by omega) (by omega)
  obtain ⟨b, p2, q2, g1, g2, g3⟩ := recipe_okB code hc 100000 (by omega) p q h2.1 (by omega)
  obtain ⟨x, a1, s3, w, c, t, e1, e2, c0, c1, a2, e3, u, v⟩ := cut_ok code hc p2 q2 [0, 1, 50, 99, 100, (-1), 101] 5 (by decide) (by decide) g2.1 (by omega)
  refine ⟨a, b, w, h1, g1, ?_⟩
  unfold spec_DrawMixRecipes.f
  refine Ev.bind h3 (Ev.bind g3 ?_)
  simp only [Option.bind_some, e1, e2, if_pos c0, if_pos c1, e3]
  exact Ev.now _
theorem drawDepth (code : List Int) (hc : codeOk code) : ∃ (l : List DPt) (a b c : Int) (s : List Int) (y : Int), szR 12 l ∧ s.length ≤ 13 ∧ Ev (fun k => spec_DrawDepthLeft.f k code) (l, a, b, c, s, y) := by
  obtain ⟨l, p, q, h1, h2, h3⟩ := recipe_ok code hc 0 0 (by omega) (by omega)
  obtain ⟨a, b, c, s, p2, q2, g1, g2, g3⟩ := bath_ok code hc l h1.1 p q h2.1 (by omega)
  obtain ⟨v, p5, q5, e5, _⟩ := yarn7_ok code hc p2 q2 g2.1 (by omega)
  refine ⟨l, a, b, c, s, v, h1, g1, ?_⟩
  unfold spec_DrawDepthLeft.f
  refine Ev.bind h3 (Ev.bind g3 ?_)
  simp only [e5, Option.bind_some]
  exact Ev.now _
theorem drawText (code : List Int) (hc : codeOk code) : ∃ (l : List DPt), szR 12 l ∧ Ev (fun k => spec_DrawRecipeText.f k code) l := by
  obtain ⟨l, p, q, h1, h2, h3⟩ := recipe_ok code hc 0 0 (by omega) (by omega)
  refine ⟨l, h1, ?_⟩
  unfold spec_DrawRecipeText.f spec_DrawIsRecipe.f
  exact Ev.bind (Ev.bind h3 (Ev.now _)) (Ev.now _)
theorem mulB (p y : Int) (hp : 1 ≤ p ∧ p ≤ 1000) (hy : 0 ≤ y ∧ y ≤ 100000) : 0 ≤ p * y ∧ p * y ≤ 100000000 :=
  ⟨Int.mul_nonneg (by omega) hy.1, Int.le_trans (Int.mul_le_mul hp.2 hy.2 hy.1 (by omega)) (by omega)⟩
def nd1 (x : DPt) (y : Int) : Int := Int.tdiv (x.f1 * y + 999) 1000
def ndl (l : List DPt) (y : Int) : List Int := l.map fun x => nd1 x y
theorem ndl_take (l : List DPt) (y : Int) (i : Nat) (hi : i < l.length) : (l.take (i + 1)).map (fun x => nd1 x y) = (l.take i).map (fun x => nd1 x y) ++ [nd1 (l.getD i z53) y] := by
  rw [take_succ_getD z53 l i hi, List.map_append]
  rfl
theorem ndl_getD (l : List DPt) (y : Int) (i : Nat) (hi : i < l.length) : (ndl l y).getD i 0 = nd1 (l.getD i z53) y := getD_map' (fun x => nd1 x y) _ _ l i hi
theorem needs_ev (l : List DPt) (y : Int) (hl : l.length ≤ 1000) (hp : ∀ x ∈ l, 1 ≤ x.f1 ∧ x.f1 ≤ 1000) (hy : 0 ≤ y ∧ y ≤ 100000) : Ev (fun k => impl_needs.f k l y) (ndl l y) := by
  unfold impl_needs.f
  obtain ⟨r, hr, h⟩ := Ev.loopE (fun k i (s : List Int) => impl_needs.l0 k y s l (l.length : Int) i) l.length (fun i s => s = (l.take i).map (fun x => nd1 x y)) (fun r => r = ndl l y)
    (fun s hs => ⟨s, by rw [hs, List.take_length]; rfl, Ev.step (f := fun _ => some s) (fun k => by rw [impl_needs.l0, if_neg (by omega)]) (Ev.now _)⟩)
    (fun i s hi hs => by
      have hm := mulB _ y (hp _ (getD_mem z53 l i hi)) hy
      have e0 : rd_T53 l (i : Int) = l.getD i z53 := rfl
      have hle : s.length ≤ l.length := by rw [hs, List.length_map]; exact List.length_take_le' i l
      refine ⟨s ++ [nd1 (l.getD i z53) y], by rw [hs, ndl_take l y i hi], fun r h => Ev.step (fun k => ?_) h⟩
      rw [impl_needs.l0, if_pos (by omega), if_pos (by omega), if_pos (by omega), e0]
      unfold impl_ceilDiv.f nd1
      obtain ⟨q, hq⟩ : ∃ q, q = (l.getD i z53).f1 * y := ⟨_, rfl⟩
      rw [← hq] at hm ⊢
      rw [if_neg (by omega), Option.bind_some, if_pos (by omega), wrap_id q (by omega) (by omega), wrap_id (q + 1000) (by omega) (by omega), wrap_id (q + 1000 - 1) (by omega) (by omega), show q + 1000 - 1 = q + 999 by omega, Int.tdiv_eq_ediv_of_nonneg (by omega), wrap_id ((q + 999) / 1000) (by omega) (by omega), wrap_id ((i : Int) + 1) (by omega) (by omega)]) [] rfl
  subst hr
  exact h
def needV (l : List DPt) (y : Int) : List Int × Bool := if rcp l = true then (if rng y 0 50000 = true then (ndl l y, true) else ([], false)) else ([], false)
theorem NeedsFor_ev (l : List DPt) (y : Int) (hl : l.length ≤ 1000) : Ev (fun k => impl_NeedsFor.f k l y) (needV l y) := by
  unfold impl_NeedsFor.f needV impl_isGrams.f
  refine Ev.bind (IsRecipe_ev l hl) ?_
  cases hb : rcp l with
  | false => exact Ev.now _
  | true =>
    simp only [if_true, in_eq, Option.bind_some]
    cases hy : rng y 0 50000 with
    | false => exact Ev.now _
    | true =>
      simp only [if_true]
      have := (rng_iff _ _ _).1 hy
      exact Ev.bind (needs_ev l y hl (rcp_iff l hb).2.1 (by omega)) (Ev.now _)
theorem le_mn (y a b : Int) : y ≤ mn a b ↔ y ≤ a ∧ y ≤ b := by unfold mn; split <;> omega
def dq (l : List DPt) (s : List Int) (y : Int) (i : Nat) : Int := Int.tdiv (100000 * s.getD i 0) ((l.getD i z53).f1 * y)
def dpt (l : List DPt) (s : List Int) (y : Int) : Nat → Int
  | 0 => 100
  | i + 1 => mn (dpt l s y i) (dq l s y i)
def depV (l : List DPt) (a b c : Int) (s : List Int) (y : Int) : Int × Bool := if okBath l a b c s = true ∧ rng y 1 50000 = true then (dpt l s y l.length, true) else (0, false)
theorem dq_rng (l : List DPt) (a b c : Int) (s : List Int) (y : Int) (h : okBath l a b c s = true) (hy : 1 ≤ y ∧ y ≤ 50000) (i : Nat) (hi : i < l.length) :
    (1 ≤ (l.getD i z53).f1 * y ∧ (l.getD i z53).f1 * y ≤ 50000000) ∧ (0 ≤ s.getD i 0 ∧ s.getD i 0 ≤ 50000) ∧ 0 ≤ dq l s y i ∧ dq l s y i ≤ 5000000000 := by
  obtain ⟨h1, h2, h3, h4, h5, h6⟩ := okBath_iff l a b c s h
  have hp := (rcp_iff l h1).2.1 _ (getD_mem z53 l i hi)
  have hs := h6 i hi
  have b1 : 1 * 1 ≤ (l.getD i z53).f1 * y := Int.mul_le_mul hp.1 hy.1 (by omega) (by omega)
  have b2 : (l.getD i z53).f1 * y ≤ 1000 * 50000 := Int.mul_le_mul hp.2 hy.2 (by omega) (by omega)
  unfold dq
  obtain ⟨q, hq⟩ : ∃ q, q = (l.getD i z53).f1 * y := ⟨_, rfl⟩
  obtain ⟨v, hv⟩ : ∃ v, v = s.getD i 0 := ⟨_, rfl⟩
  rw [← hq] at b1 b2 ⊢
  rw [← hv] at hs ⊢
  have e : Int.tdiv (100000 * v) q = (100000 * v) / q := Int.tdiv_eq_ediv_of_nonneg (by omega)
  rw [e]
  have u1 : 0 ≤ (100000 * v) / q := Int.ediv_nonneg (by omega) (by omega)
  have u2 : (100000 * v) / q ≤ 100000 * v := Int.ediv_le_self _ (by omega)
  exact ⟨⟨by omega, by omega⟩, hs, u1, by omega⟩
theorem dpt_rng (l : List DPt) (a b c : Int) (s : List Int) (y : Int) (h : okBath l a b c s = true) (hy : 1 ≤ y ∧ y ≤ 50000) : ∀ n, n ≤ l.length → 0 ≤ dpt l s y n ∧ dpt l s y n ≤ 100 := by
  intro n
  induction n with
  | zero => intro _; exact ⟨by show (0 : Int) ≤ 100; omega, by show (100 : Int) ≤ 100; omega⟩
  | succ n ih =>
    intro hn
    have h1 := ih (by omega)
    have h2 := (dq_rng l a b c s y h hy n (by omega)).2.2
    rw [dpt]
    refine ⟨(le_mn _ _ _).2 ⟨h1.1, h2.1⟩, ?_⟩
    unfold mn
    split <;> omega
theorem dpt_all (l : List DPt) (s : List Int) (y v : Int) : ∀ n, v ≤ dpt l s y n → ∀ i, i < n → v ≤ dq l s y i := by
  intro n
  induction n with
  | zero => intro _ i hi; omega
  | succ n ih =>
    intro hn i hi
    rw [dpt, le_mn] at hn
    by_cases e : i = n
    · rw [e]; exact hn.2
    · exact ih hn.1 i (by omega)
theorem dpt_enough (l : List DPt) (a b c : Int) (s : List Int) (y : Int) (h : okBath l a b c s = true) (hy : 1 ≤ y ∧ y ≤ 50000) (hd : dpt l s y l.length = 100) (i : Nat) (hi : i < l.length) : ¬ s.getD i 0 < nd1 (l.getD i z53) y := by
  have h1 := dpt_all l s y 100 l.length (by omega) i hi
  obtain ⟨b1, b2, b3, b4⟩ := dq_rng l a b c s y h hy i hi
  unfold dq at h1
  unfold nd1
  obtain ⟨q, hq⟩ : ∃ q, q = (l.getD i z53).f1 * y := ⟨_, rfl⟩
  obtain ⟨v, hv⟩ : ∃ v, v = s.getD i 0 := ⟨_, rfl⟩
  rw [← hq] at b1 h1 ⊢
  rw [← hv] at b2 h1 ⊢
  rw [Int.tdiv_eq_ediv_of_nonneg (by omega), Int.le_ediv_iff_mul_le (by omega)] at h1
  rw [Int.tdiv_eq_ediv_of_nonneg (by omega)]
  omega
theorem DepthLeft_ev (l : List DPt) (a b c : Int) (s : List Int) (y : Int) (hl : l.length ≤ 1000) : Ev (fun k => impl_DepthLeft.f k l a b c s y) (depV l a b c s y) := by
  have i0 : Ev (fun k => impl_DepthLeft.j0 k l y true a b c s) (0, false) := Ev.step (f := fun _ => some (0, false)) (fun k => by rw [impl_DepthLeft.j0, if_pos rfl]) (Ev.now _)
  unfold impl_DepthLeft.f depV
  refine Ev.bind (IsBath_ev l a b c s hl) ?_
  cases hb : okBath l a b c s with
  | false => simp only [Bool.false_eq_true, false_and, if_false]; exact i0
  | true =>
    simp only [if_true, in_eq, Option.bind_some, true_and]
    cases hy0 : rng y 1 50000 with
    | false => simp only [Bool.false_eq_true, if_false, Bool.not_false]; exact i0
    | true =>
      have hy := (rng_iff _ _ _).1 hy0
      obtain ⟨h1, h2, h3, h4, h5, h6⟩ := okBath_iff l a b c s hb
      simp only [if_true, Bool.not_true]
      refine Ev.step (fun k => by rw [impl_DepthLeft.j0, if_neg Bool.false_ne_true]) ?_
      obtain ⟨r, hr, h⟩ := Ev.loopE (fun k i (x : Int) => impl_DepthLeft.l0 k y x l (l.length : Int) i a b c s) l.length (fun i x => x = dpt l s y i) (fun r => r = (dpt l s y l.length, true))
        (fun x hx => ⟨_, rfl, by subst hx; exact Ev.step (f := fun _ => some (dpt l s y l.length, true)) (fun k => by rw [impl_DepthLeft.l0, if_neg (by omega)]) (Ev.now _)⟩)
        (fun i x hi hx => by
          refine ⟨dpt l s y (i + 1), rfl, fun r h => Ev.step (fun k => ?_) h⟩
          obtain ⟨b1, b2, b3, b4⟩ := dq_rng l a b c s y hb hy i hi
          have e0 : rd_T53 l (i : Int) = l.getD i z53 := rfl
          have e1 : rd s (i : Int) = s.getD i 0 := rfl
          have hdq : Int.tdiv (100000 * s.getD i 0) ((l.getD i z53).f1 * y) = dq l s y i := rfl
          obtain ⟨D, hD⟩ : ∃ D, D = dq l s y i := ⟨_, rfl⟩
          rw [dpt, ← hx]
          rw [← hD] at b3 b4 hdq ⊢
          obtain ⟨q, hq⟩ : ∃ q, q = (l.getD i z53).f1 * y := ⟨_, rfl⟩
          obtain ⟨v, hv⟩ : ∃ v, v = s.getD i 0 := ⟨_, rfl⟩
          rw [← hq] at b1 hdq
          rw [← hv] at b2 hdq
          rw [impl_DepthLeft.l0, if_pos (by omega), if_pos (by omega), if_pos (by omega), if_pos (by omega), e0, e1, ← hq, ← hv, wrap_id q (by omega) (by omega), if_neg (by omega), wrap_id (100 * v) (by omega) (by omega), wrap_id (100 * v * 1000) (by omega) (by omega), show 100 * v * 1000 = 100000 * v by omega, hdq, wrap_id D (by omega) (by omega), wrap_id ((i : Int) + 1) (by omega) (by omega)]) 100 rfl
      subst hr
      exact h
theorem sDepthLeft_ev (l : List DPt) (a b c : Int) (s : List Int) (y : Int) (hl : l.length ≤ 1000) (hz : ∀ x ∈ l, x.f0.size ≤ 1000) (hs : s.length ≤ 1000) : Ev (fun k => spec_DepthLeft.f k l a b c s y) (depV l a b c s y) := by
  have i0 : Ev (fun k => spec_DepthLeft.j0 k l y true a b c s) (0, false) := Ev.step (f := fun _ => some (0, false)) (fun k => by rw [spec_DepthLeft.j0, if_pos rfl]) (Ev.now _)
  unfold spec_DepthLeft.f depV
  refine Ev.bind (l7Bath_ev l a b c s hl hz hs) ?_
  cases hb : okBath l a b c s with
  | false => simp only [Bool.false_eq_true, false_and, if_false]; exact i0
  | true =>
    simp only [if_true, l1In_eq, Option.bind_some, true_and]
    cases hy0 : rng y 1 50000 with
    | false => simp only [Bool.false_eq_true, if_false, Bool.not_false]; exact i0
    | true =>
      have hy := (rng_iff _ _ _).1 hy0
      obtain ⟨h1, h2, h3, h4, h5, h6⟩ := okBath_iff l a b c s hb
      simp only [if_true, Bool.not_true]
      refine Ev.step (fun k => by rw [spec_DepthLeft.j0, if_neg Bool.false_ne_true]) ?_
      obtain ⟨r, hr, h⟩ := Ev.loopE (fun k i (x : Int) => spec_DepthLeft.l0 k l y x i a b c s) l.length (fun i x => x = dpt l s y i) (fun r => r = (dpt l s y l.length, true))
        (fun x hx => ⟨_, rfl, by subst hx; exact Ev.step (f := fun _ => some (dpt l s y l.length, true)) (fun k => by rw [spec_DepthLeft.l0, if_neg (by omega)]) (Ev.now _)⟩)
        (fun i x hi hx => by
          refine ⟨dpt l s y (i + 1), rfl, fun r h => Ev.step (fun k => ?_) h⟩
          obtain ⟨b1, b2, b3, b4⟩ := dq_rng l a b c s y hb hy i hi
          have e0 : rd_T53 l (i : Int) = l.getD i z53 := rfl
          have e1 : rd s (i : Int) = s.getD i 0 := rfl
          have hdq : Int.tdiv (100000 * s.getD i 0) ((l.getD i z53).f1 * y) = dq l s y i := rfl
          obtain ⟨D, hD⟩ : ∃ D, D = dq l s y i := ⟨_, rfl⟩
          rw [dpt, ← hx]
          rw [← hD] at b3 b4 hdq ⊢
          have hmn : spec_l1Least.f x D = some (mn x D) := by
            unfold spec_l1Least.f mn
            by_cases c : x < D
            · rw [if_pos c, if_neg (by omega)]
            · rw [if_neg c]
              by_cases e : D < x
              · rw [if_pos e]
              · rw [if_neg e, show x = D by omega]
          obtain ⟨q, hq⟩ : ∃ q, q = (l.getD i z53).f1 * y := ⟨_, rfl⟩
          obtain ⟨v, hv⟩ : ∃ v, v = s.getD i 0 := ⟨_, rfl⟩
          rw [← hq] at b1 hdq
          rw [← hv] at b2 hdq
          rw [spec_DepthLeft.l0, if_pos (by omega), if_pos (by omega), if_pos (by omega), e0, e1, ← hq, ← hv, wrap_id q (by omega) (by omega), if_neg (by omega), wrap_id (100000 * v) (by omega) (by omega), hdq, wrap_id D (by omega) (by omega), hmn, Option.bind_some, wrap_id ((i : Int) + 1) (by omega) (by omega)]) 100 rfl
      subst hr
      exact h
def dv (a : Nat) (b : UInt8) : Nat := 10 * a + (b.toNat - 48)
attribute [irreducible] dv
theorem dd_len (d : Nat) : ∀ u, u < 10 ^ (d + 1) → 1 ≤ (Lib.decDigits u).length ∧ (Lib.decDigits u).length ≤ d + 1 := by
  induction d with
  | zero =>
    intro u hu
    rw [Lib.decDigits_one (by simpa using hu)]
    exact ⟨Nat.le_refl _, Nat.le_refl _⟩
  | succ d ih =>
    intro u hu
    by_cases h : u < 10
    · rw [Lib.decDigits_one h]
      exact ⟨Nat.le_refl _, by simp⟩
    · have := ih (u / 10) (by rw [Nat.pow_succ] at hu; omega)
      rw [Lib.decDigits, dif_neg h, List.length_append, List.length_singleton]
      omega
theorem itoa_pos (n : Int) (h : 0 ≤ n) : Lib.itoa n = Lib.decDigits n.toNat := by unfold Lib.itoa; rw [if_neg (by omega)]
theorem itoa_neg' (n : Int) (h : n < 0) : Lib.itoa n = 45 :: Lib.decDigits n.natAbs := by unfold Lib.itoa; rw [if_pos h]
def itB (n : Int) : ByteArray := ⟨(Lib.itoa n).toArray⟩
theorem itB_data (n : Int) : (itB n).data.toList = Lib.itoa n := by unfold itB; simp
theorem itB_size (n : Int) : (itB n).size = (Lib.itoa n).length := by rw [Lib.size_eq, itB_data]
theorem ba_ext (a b : ByteArray) (h : a.data.toList = b.data.toList) : a = b := by
  obtain ⟨a⟩ := a
  obtain ⟨b⟩ := b
  congr 1
  exact Array.toList_inj.1 h
theorem dapp (a b : ByteArray) : (a ++ b).data.toList = a.data.toList ++ b.data.toList := by
  obtain ⟨a⟩ := a
  obtain ⟨b⟩ := b
  rw [ByteArray.mk_append_mk]
theorem dig_ext : ∀ u : Fin 10, ((⟨#[48, 49, 50, 51, 52, 53, 54, 55, 56, 57]⟩ : ByteArray).extract u.val (u.val + 1)).data.toList = [UInt8.ofNat (48 + u.val)] := by decide
theorem l1Num_nat (u : Nat) (hu : u < 1000000000) : Ev (fun k => spec_l1Num.f k (u : Int)) (itB (u : Int)) := by
  induction u using Nat.strongRecOn with
  | _ u ih =>
    by_cases h : u < 10
    · have e : (⟨#[48, 49, 50, 51, 52, 53, 54, 55, 56, 57]⟩ : ByteArray).extract ((u : Int)).toNat ((u : Int) + 1).toNat = itB (u : Int) := by
        apply ba_ext
        rw [itB_data, itoa_pos _ (by omega), Int.toNat_natCast, Lib.decDigits_one h, show ((u : Int) + 1).toNat = u + 1 by omega]
        exact dig_ext ⟨u, h⟩
      refine Ev.step (f := fun _ => some (itB (u : Int))) (fun k => ?_) (Ev.now _)
      rw [spec_l1Num.f, if_neg (by omega), if_pos (by omega), if_pos (by omega), wrap_id ((u : Int) + 1) (by omega) (by omega), if_pos (by omega), if_pos (by omega), e]
    · have hd : Int.tdiv (u : Int) 10 = ((u / 10 : Nat) : Int) := by rw [Int.tdiv_eq_ediv_of_nonneg (by omega)]; omega
      have hm : Int.tmod (u : Int) 10 = ((u % 10 : Nat) : Int) := by rw [Int.tmod_eq_emod_of_nonneg (by omega)]; omega
      have hlen := dd_len 8 (u / 10) (by omega)
      have hsz : (itB ((u / 10 : Nat) : Int)).size ≤ 9 := by rw [itB_size, itoa_pos _ (by omega), Int.toNat_natCast]; omega
      have e2 : ((⟨#[48, 49, 50, 51, 52, 53, 54, 55, 56, 57]⟩ : ByteArray).extract (((u % 10 : Nat) : Int)).toNat (((u % 10 : Nat) : Int) + 1).toNat).data.toList = [UInt8.ofNat (48 + u % 10)] := by
        rw [Int.toNat_natCast, show (((u % 10 : Nat) : Int) + 1).toNat = u % 10 + 1 by omega]
        exact dig_ext ⟨u % 10, by omega⟩
      have e3 : ((⟨#[48, 49, 50, 51, 52, 53, 54, 55, 56, 57]⟩ : ByteArray).extract (((u % 10 : Nat) : Int)).toNat (((u % 10 : Nat) : Int) + 1).toNat).size = 1 := by rw [Lib.size_eq, e2]; rfl
      have e : itB ((u / 10 : Nat) : Int) ++ (⟨#[48, 49, 50, 51, 52, 53, 54, 55, 56, 57]⟩ : ByteArray).extract (((u % 10 : Nat) : Int)).toNat (((u % 10 : Nat) : Int) + 1).toNat = itB (u : Int) := by
        apply ba_ext
        rw [dapp, e2, itB_data, itB_data, itoa_pos _ (by omega), itoa_pos (u : Int) (by omega), Int.toNat_natCast, Int.toNat_natCast]
        conv => rhs; rw [Lib.decDigits, dif_neg h]
      refine Ev.step (fun k => by rw [spec_l1Num.f, if_neg (by omega), if_neg (by omega), hd, wrap_id _ (by omega) (by omega)]) (Ev.bind (ih (u / 10) (by omega) (by omega)) ?_)
      simp only [hm, wrap_id (((u % 10 : Nat) : Int) + 1) (show -9223372036854775808 ≤ ((u % 10 : Nat) : Int) + 1 by omega) (show ((u % 10 : Nat) : Int) + 1 ≤ 9223372036854775807 by omega), if_pos (show 0 ≤ ((u % 10 : Nat) : Int) by omega), if_pos (show ((u % 10 : Nat) : Int) ≤ ((u % 10 : Nat) : Int) + 1 by omega), if_pos (show ((u % 10 : Nat) : Int) + 1 ≤ 10 by omega), e3, if_pos (show (itB ((u / 10 : Nat) : Int)).size + 1 ≤ 9223372036854775807 by omega), e]
      exact Ev.now _
theorem l1Num_ev (n : Int) (h : -999999999 ≤ n ∧ n ≤ 999999999) : Ev (fun k => spec_l1Num.f k n) (itB n) := by
  by_cases hn : n < 0
  · have G := l1Num_nat n.natAbs (by omega)
    have hlen := dd_len 8 n.natAbs (by omega)
    have hsz : (itB ((n.natAbs : Nat) : Int)).size ≤ 9 := by rw [itB_size, itoa_pos _ (by omega), Int.toNat_natCast]; omega
    have e : (⟨#[45]⟩ : ByteArray) ++ itB ((n.natAbs : Nat) : Int) = itB n := by
      apply ba_ext
      rw [dapp, itB_data, itB_data, itoa_pos _ (by omega), Int.toNat_natCast, itoa_neg' n hn]
      rfl
    refine Ev.step (fun k => by rw [spec_l1Num.f, if_pos hn, wrap_id (-n) (by omega) (by omega), show -n = ((n.natAbs : Nat) : Int) by omega]) (Ev.bind G ?_)
    simp only [if_pos (show 1 + (itB ((n.natAbs : Nat) : Int)).size ≤ 9223372036854775807 by omega), e]
    exact Ev.now _
  · have G := l1Num_nat n.toNat (by omega)
    rw [show ((n.toNat : Nat) : Int) = n by omega] at G
    exact G
theorem itB_len (n : Int) (h : -999999 ≤ n ∧ n ≤ 999999) : 1 ≤ (itB n).size ∧ (itB n).size ≤ 7 := by
  rw [itB_size]
  by_cases hn : n < 0
  · have := dd_len 5 n.natAbs (by omega)
    rw [itoa_neg' n hn, List.length_cons]
    omega
  · have := dd_len 5 n.toNat (by omega)
    rw [itoa_pos n (by omega)]
    omega
theorem rcp_size10 (l : List DPt) (h : rcp l = true) : ∀ x ∈ l, x.f0.size ≤ 10 := by
  intro x hx
  unfold rcp at h
  rw [Bool.and_eq_true, Bool.and_eq_true] at h
  have := List.all_eq_true.1 h.2.1 x hx
  rw [okPart_eq, Bool.and_eq_true] at this
  have h1 := this.1
  unfold isWordB at h1
  rw [Bool.and_eq_true, rng_iff] at h1
  omega
def wordR (x : DPt) : ByteArray := (x.f0 ++ (⟨#[58]⟩ : ByteArray)) ++ itB x.f1
def stx (l : List DPt) : Nat → ByteArray
  | 0 => (⟨#[]⟩ : ByteArray)
  | i + 1 => (((if i = 0 then stx l i else stx l i ++ (⟨#[32]⟩ : ByteArray)) ++ (l.getD i z53).f0) ++ (⟨#[58]⟩ : ByteArray)) ++ itB (l.getD i z53).f1
def textV (l : List DPt) : ByteArray × Bool := if rcp l = true then (stx l l.length, true) else ((⟨#[]⟩ : ByteArray), false)
theorem join_snoc (x : List UInt8) (r : List (List UInt8)) (y sep : List UInt8) : Lib.join ((x :: r) ++ [y]) sep = Lib.join (x :: r) sep ++ (sep ++ y) := by
  rw [List.cons_append, Lib.join_cons, Lib.join_cons]
  unfold Lib.joinTail
  rw [List.map_append, List.flatten_append, List.append_assoc]
  simp
theorem stx_data (l : List DPt) : ∀ i, i < l.length → (stx l (i + 1)).data.toList = Lib.join ((l.take (i + 1)).map fun x => (wordR x).data.toList) [32] := by
  intro i
  induction i with
  | zero =>
    intro hi
    rw [take_succ_getD z53 l 0 hi, List.take_zero, List.nil_append, List.map_cons, List.map_nil, Lib.join_one, stx, if_pos rfl, stx]
    unfold wordR
    rw [dapp, dapp, dapp, dapp, dapp]
    rfl
  | succ i ih =>
    intro hi
    have h := ih (by omega)
    obtain ⟨x, r, hx⟩ : ∃ x r, (l.take (i + 1)).map (fun x => (wordR x).data.toList) = x :: r := by
      cases hq : (l.take (i + 1)).map (fun x => (wordR x).data.toList) with
      | nil =>
        have := congrArg List.length hq
        rw [List.length_map, List.length_take, List.length_nil] at this
        omega
      | cons x r => exact ⟨x, r, rfl⟩
    rw [take_succ_getD z53 l (i + 1) hi, List.map_append, List.map_cons, List.map_nil, hx, join_snoc, ← hx, ← h, stx, if_neg (by omega)]
    unfold wordR
    rw [dapp, dapp, dapp, dapp, dapp, dapp]
    simp only [List.append_assoc]
theorem stx_size (l : List DPt) (h : rcp l = true) : ∀ i, i ≤ l.length → (stx l i).size ≤ 100 * i := by
  intro i
  induction i with
  | zero => intro _; exact Nat.le_refl _
  | succ i ih =>
    intro hi
    have h1 := ih (by omega)
    have hm := getD_mem z53 l i (by omega)
    have h2 := rcp_size10 l h _ hm
    have h3 := (rcp_iff l h).2.1 _ hm
    have h4 := (itB_len (l.getD i z53).f1 (by omega)).2
    have e1 : (⟨#[58]⟩ : ByteArray).size = 1 := rfl
    have e2 : (⟨#[32]⟩ : ByteArray).size = 1 := rfl
    rw [stx]
    split
    · rw [ByteArray.size_append, ByteArray.size_append, ByteArray.size_append, e1]; omega
    · rw [ByteArray.size_append, ByteArray.size_append, ByteArray.size_append, ByteArray.size_append, e1, e2]; omega
theorem RecipeText_ev (l : List DPt) (hl : l.length ≤ 1000) : Ev (fun k => impl_RecipeText.f k l) (textV l) := by
  unfold impl_RecipeText.f textV
  refine Ev.bind (IsRecipe_ev l hl) ?_
  cases hb : rcp l with
  | false => simp only [Bool.false_eq_true, if_false]; exact Ev.now _
  | true =>
    simp only [if_true]
    have hlen := (rcp_iff l hb).1
    obtain ⟨r, hr, h⟩ := Ev.loopE (fun k i (x : List ByteArray) => impl_RecipeText.l0 k x l (l.length : Int) i) l.length (fun i x => x = (l.take i).map wordR) (fun r => r = (stx l l.length, true))
      (fun x hx => ⟨_, rfl, by
        have hst : stx l l.length = (⟨(Lib.join (x.map (·.data.toList)) [32]).toArray⟩ : ByteArray) := by
          apply ba_ext
          have := stx_data l (l.length - 1) (by omega)
          rw [show l.length - 1 + 1 = l.length by omega] at this
          rw [this, hx, List.map_map]
          rfl
        have hsz := stx_size l hb l.length (Nat.le_refl _)
        have hj : strings_Join.f x (⟨#[32]⟩ : ByteArray) = some (stx l l.length) := by
          unfold strings_Join.f
          have q1 : x ≠ [] := fun e => by
            have := congrArg List.length hx
            rw [e, List.length_map, List.length_take, List.length_nil] at this
            omega
          have q2 : x.length ≤ 1000000 := by rw [hx, List.length_map, List.length_take]; omega
          have q3 : (Lib.join (x.map (·.data.toList)) [32]).length ≤ 1000000000 := by
            have e : (Lib.join (x.map (·.data.toList)) [32]).length = (stx l l.length).size := by rw [hst, Lib.size_eq]
            rw [e]; omega
          rw [if_pos ⟨q1, q2, q3⟩, hst]
        refine Ev.step (f := fun _ => some (stx l l.length, true)) (fun k => ?_) (Ev.now _)
        rw [impl_RecipeText.l0, if_neg (by omega), hj, Option.bind_some]⟩)
      (fun i x hi hx => by
        refine ⟨(l.take (i + 1)).map wordR, rfl, fun r h => Ev.step (fun k => ?_) h⟩
        have e0 : rd_T53 l (i : Int) = l.getD i z53 := rfl
        have hm := getD_mem z53 l i hi
        have h2 := rcp_size10 l hb _ hm
        have h3 := (rcp_iff l hb).2.1 _ hm
        have h4 := (itB_len (l.getD i z53).f1 (by omega)).2
        have hd : impl_decimal.f (l.getD i z53).f1 = some (itB (l.getD i z53).f1) := by unfold impl_decimal.f; rw [if_pos ⟨by omega, by omega⟩]; rfl
        have e1 : ((l.getD i z53).f0 ++ (⟨#[58]⟩ : ByteArray)).size = (l.getD i z53).f0.size + 1 := by rw [ByteArray.size_append]; rfl
        have hxl : x.length ≤ 1000 := by rw [hx, List.length_map, List.length_take]; omega
        rw [impl_RecipeText.l0, if_pos (by omega), if_pos (by omega), if_pos (by omega), e0, if_pos (by omega), hd, Option.bind_some, e1, if_pos (by omega), if_pos (by omega), wrap_id ((i : Int) + 1) (by omega) (by omega), hx, take_succ_getD z53 l i hi, List.map_append]
        rfl) [] rfl
    subst hr
    exact h
theorem sRecipeText_ev (l : List DPt) (hl : l.length ≤ 1000) (hz : ∀ x ∈ l, x.f0.size ≤ 1000) : Ev (fun k => spec_RecipeText.f k l) (textV l) := by
  unfold spec_RecipeText.f textV
  refine Ev.bind (l7Good_ev l hl hz) ?_
  cases hb : rcp l with
  | false => simp only [Bool.false_eq_true, if_false]; exact Ev.now _
  | true =>
    simp only [if_true]
    have hlen := (rcp_iff l hb).1
    obtain ⟨r, hr, h⟩ := Ev.loopE (fun k i (x : ByteArray) => spec_RecipeText.l0 k l x i) l.length (fun i x => x = stx l i) (fun r => r = (stx l l.length, true))
      (fun x hx => ⟨_, rfl, by subst hx; exact Ev.step (f := fun _ => some (stx l l.length, true)) (fun k => by rw [spec_RecipeText.l0, if_neg (by omega)]) (Ev.now _)⟩)
      (fun i x hi hx => by
        refine ⟨stx l (i + 1), rfl, fun r h => ?_⟩
        have e0 : rd_T53 l (i : Int) = l.getD i z53 := rfl
        have hm := getD_mem z53 l i hi
        have h2 := rcp_size10 l hb _ hm
        have h3 := (rcp_iff l hb).2.1 _ hm
        have h4 := (itB_len (l.getD i z53).f1 (by omega)).2
        have h5 := stx_size l hb i (by omega)
        have hN := l1Num_ev (l.getD i z53).f1 (by omega)
        have w2 : Aside0 (wrap64 ((i : Int) + 1) = (i : Int) + 1) := ⟨wrap_id _ (by omega) (by omega)⟩
        rw [← hx] at h5
        rw [stx, ← hx] at h
        have e1 : (⟨#[58]⟩ : ByteArray).size = 1 := rfl
        have e2 : (⟨#[32]⟩ : ByteArray).size = 1 := rfl
        by_cases c : i = 0
        · rw [if_pos c] at h
          refine Ev.step (f := fun k => (spec_l1Num.f k (l.getD i z53).f1).bind _) (fun k => by
            rw [spec_RecipeText.l0, if_pos (by omega), if_neg (by omega), if_pos (by omega), e0, if_pos (by omega), ByteArray.size_append, if_pos (by omega)]) (Ev.bind hN ?_)
          simp only [ByteArray.size_append, e1, if_pos (show x.size + (l.getD i z53).f0.size + 1 + (itB (l.getD i z53).f1).size ≤ 9223372036854775807 by omega), w2.out]
          exact h
        · rw [if_neg c] at h
          refine Ev.step (f := fun k => (spec_l1Num.f k (l.getD i z53).f1).bind _) (fun k => by
            rw [spec_RecipeText.l0, if_pos (by omega), if_pos (by omega), if_pos (by omega), if_pos (by omega), e0, ByteArray.size_append, e2, if_pos (by omega), ByteArray.size_append, ByteArray.size_append, e2, if_pos (by omega)]) (Ev.bind hN ?_)
          simp only [ByteArray.size_append, e1, e2, if_pos (show x.size + 1 + (l.getD i z53).f0.size + 1 + (itB (l.getD i z53).f1).size ≤ 9223372036854775807 by omega), w2.out]
          exact h) (⟨#[]⟩ : ByteArray) rfl
    subst hr
    exact h
theorem rParts_ev (l : List DPt) (hl : l.length ≤ 1000) : Ev (fun k => laws_rParts.f k l l) true := by
  unfold laws_rParts.f
  simp only [if_true]
  have key : ∀ d i : Nat, i + d = l.length → Ev (fun k => laws_rParts.l0 k l l (i : Int)) true := by
    intro d
    induction d with
    | zero => intro i hi; exact Ev.step (f := fun _ => some true) (fun k => by rw [laws_rParts.l0, if_neg (by omega)]) (Ev.now _)
    | succ d ih =>
      intro i hi
      have G := ih (i + 1) (by omega)
      rw [show ((i + 1 : Nat) : Int) = (i : Int) + 1 from by omega] at G
      refine Ev.step (fun k => ?_) G
      rw [laws_rParts.l0, if_pos (by omega), if_pos (by omega), if_pos (by omega), if_neg (by rw [beq_self_eq_true, beq_self_eq_true]; decide), wrap_id ((i : Int) + 1) (by omega) (by omega)]
  exact key l.length 0 (by omega)
theorem mixV_len (a b : List DPt) (sh : Int) (ha : a.length ≤ 100) (hb : b.length ≤ 100) : (mixV a b sh).1.length ≤ 200 := by
  have := mixL_len a b sh
  unfold mixV mixW
  split
  · split
    · show (mixL a b sh).length ≤ 200; omega
    · exact Nat.zero_le _
  · exact Nat.zero_le _
theorem depV_facts (l : List DPt) (a b c : Int) (s : List Int) (y : Int) : ¬ (depV l a b c s y).1 < 0 ∧ ¬ (depV l a b c s y).1 > 100 ∧ ((depV l a b c s y).2 = true → needV l y = (ndl l y, true) ∧ (ndl l y).length = l.length ∧ s.length = l.length ∧ ((depV l a b c s y).1 = 100 → ∀ i, i < l.length → ¬ s.getD i 0 < (ndl l y).getD i 0)) := by
  unfold depV
  by_cases h : okBath l a b c s = true ∧ rng y 1 50000 = true
  · rw [if_pos h]
    have hy := (rng_iff _ _ _).1 h.2
    obtain ⟨h1, h2, h3, h4, h5, h6⟩ := okBath_iff l a b c s h.1
    have hr := dpt_rng l a b c s y h.1 hy l.length (Nat.le_refl _)
    refine ⟨by show ¬ dpt l s y l.length < 0; omega, by show ¬ dpt l s y l.length > 100; omega, fun _ => ⟨?_, ?_, h5, fun hd i hi => ?_⟩⟩
    · unfold needV
      rw [if_pos h1, if_pos ((rng_iff _ _ _).2 (by omega))]
    · unfold ndl; rw [List.length_map]
    · rw [ndl_getD l y i hi]
      exact dpt_enough l a b c s y h.1 hy hd i hi
  · rw [if_neg h]
    exact ⟨by show ¬ (0 : Int) < 0; omega, by show ¬ (0 : Int) > 100; omega, fun h => by cases h⟩
theorem textV_ok (l : List DPt) : (textV l).2 = rcp l := by
  unfold textV
  cases rcp l <;> rfl
theorem FnRecipes (l0 : List (Int)) (q_l0 : (l0.length ≤ maxLen ∧ ∀ q ∈ l0, (Lit.int .u8 q).wf = true)) : ∃ k, laws_FnRecipes.f k l0 = some true := by
  by_cases hb : (l0.length : Int) > 65536
  · refine ⟨0, ?_⟩
    unfold laws_FnRecipes.f laws_rBig.f
    rw [Option.bind_some, decide_eq_true hb, if_pos rfl]
  · have hc : codeOk l0 := codeOk_of l0 (by omega) q_l0.2
    have fin : Ev (fun k => laws_FnRecipes.f k l0) true := by
      obtain ⟨a, b, sh, ⟨ha, hza⟩, ⟨hlb, hzb⟩, d1⟩ := drawMix l0 hc
      obtain ⟨l, A, B, C, s, y, ⟨hl, hzl⟩, hs, d2⟩ := drawDepth l0 hc
      obtain ⟨r, ⟨hr, hzr⟩, d3⟩ := drawText l0 hc
      have hza' : ∀ x ∈ a, x.f0.size ≤ 1000 := fun x hx => by have := hza x hx; omega
      have hzb' : ∀ x ∈ b, x.f0.size ≤ 1000 := fun x hx => by have := hzb x hx; omega
      have hzl' : ∀ x ∈ l, x.f0.size ≤ 1000 := fun x hx => by have := hzl x hx; omega
      have hzr' : ∀ x ∈ r, x.f0.size ≤ 1000 := fun x hx => by have := hzr x hx; omega
      obtain ⟨m1, m2⟩ := mix_both a b sh (by omega) (by omega) hza' hzb'
      have m3 := fun t => (mix_both b a t (by omega) (by omega) hzb' hza').1
      have m4 := (mix_both a b 0 (by omega) (by omega) hza' hzb').1
      have mlen := mixV_len a b sh (by omega) (by omega)
      have mp := rParts_ev (mixV a b sh).1 (by omega)
      have mpa := rParts_ev a (by omega)
      have mi := IsRecipe_ev (mixV a b sh).1 (by omega)
      have my := mixV_yes a b sh
      have e1 := DepthLeft_ev l A B C s y (by omega)
      have e2 := sDepthLeft_ev l A B C s y (by omega) hzl' (by omega)
      have e3 := NeedsFor_ev l y (by omega)
      obtain ⟨f1, f2, f3⟩ := depV_facts l A B C s y
      have t1 := RecipeText_ev r (by omega)
      have t2 := sRecipeText_ev r (by omega) hzr'
      have t3 := IsRecipe_ev r (by omega)
      have t4 := textV_ok r
      have h5 : Ev (fun k => laws_FnRecipes.j5 k l0) true := by
        refine Ev.step (fun k => by rw [laws_FnRecipes.j5]) (Ev.bind d3 (Ev.bind t1 (Ev.bind t2 ?_)))
        simp only [if_true, beq_self_eq_true]
        refine Ev.bind t3 ?_
        rw [t4, beq_self_eq_true]
        exact Ev.now _
      have h1 : Ev (fun k => laws_FnRecipes.j1 k l0) true := by
        refine Ev.step (fun k => by rw [laws_FnRecipes.j1]) (Ev.bind d2 (Ev.bind e1 (Ev.bind e2 ?_)))
        obtain ⟨D, hD⟩ : ∃ D, D = depV l A B C s y := ⟨_, rfl⟩
        rw [← hD] at f1 f2 f3 ⊢
        simp only [if_true, bne_self_eq_false, Bool.false_eq_true, if_false, if_neg f1, decide_eq_false f2]
        refine Ev.step (f := fun k => if D.2 = true then ((impl_NeedsFor.f k l y).bind fun bt488 => (if bt488.2 = true then (laws_FnRecipes.j3 k l0 D.1 bt488.1 ((bt488.1.length : Int) != (s.length : Int)) A B C s) else (laws_FnRecipes.j3 k l0 D.1 bt488.1 true A B C s))) else (laws_FnRecipes.j5 k l0)) (fun k => by rw [laws_FnRecipes.j2, if_neg Bool.false_ne_true]) ?_
        cases ho : D.2 with
        | false => simp only [Bool.false_eq_true, if_false]; exact h5
        | true =>
          obtain ⟨g1, g2, g3, g4⟩ := f3 ho
          simp only [if_true]
          refine Ev.bind e3 ?_
          rw [g1]
          simp only [if_true, g2, g3, bne_self_eq_false]
          refine Ev.step (fun k => by rw [laws_FnRecipes.j3, if_neg Bool.false_ne_true]) ?_
          have key : ∀ d i : Nat, i + d = l.length → Ev (fun k => laws_FnRecipes.l0 k l0 D.1 (ndl l y) (i : Int) A B C s) true := by
            intro d
            induction d with
            | zero => intro i hi; exact Ev.step (fun k => by rw [laws_FnRecipes.l0, if_neg (by omega)]) h5
            | succ d ih =>
              intro i hi
              have G := ih (i + 1) (by omega)
              rw [show ((i + 1 : Nat) : Int) = (i : Int) + 1 from by omega] at G
              have w2 : Aside0 (wrap64 ((i : Int) + 1) = (i : Int) + 1) := ⟨wrap_id _ (by omega) (by omega)⟩
              by_cases hd : D.1 = 100
              · have hq := g4 hd i (by omega)
                have r0 : rd s (i : Int) = s.getD i 0 := rfl
                have r1 : rd (ndl l y) (i : Int) = (ndl l y).getD i 0 := rfl
                exact Ev.step (fun k => by rw [laws_FnRecipes.l0, if_pos (by omega), if_pos hd, if_pos (by omega), if_pos (by omega), r0, r1, if_neg hq, w2.out]) G
              · exact Ev.step (fun k => by rw [laws_FnRecipes.l0, if_pos (by omega), if_neg hd, w2.out]) G
          exact key l.length 0 (by omega)
      unfold laws_FnRecipes.f laws_rBig.f
      simp only [Option.bind_some, decide_eq_false hb, Bool.false_eq_true, if_false]
      refine Ev.bind d1 (Ev.bind m1 (Ev.bind m2 ?_))
      simp only [bne_self_eq_false, Bool.false_eq_true, if_false]
      refine Ev.bind mp ?_
      simp only [Bool.not_true]
      obtain ⟨X, hX⟩ : ∃ X, X = mixV a b sh := ⟨_, rfl⟩
      rw [← hX] at my mp mi ⊢
      refine Ev.step (f := fun k => if X.2 = true then ((impl_MixRecipes.f k b a (wrap64 (100 - sh))).bind fun bt462 => ((impl_MixRecipes.f k a b 0).bind fun bt466 => (if bt462.2 = true then ((laws_rParts.f k bt462.1 X.1).bind fun t470 => (if t470 = true then (if bt466.2 = true then ((laws_rParts.f k bt466.1 a).bind fun t471 => (if t471 = true then ((impl_IsRecipe.f k X.1).bind fun t472 => (if t472 = true then (laws_FnRecipes.j1 k l0) else (none))) else (none))) else (none)) else (none))) else (none)))) else (laws_FnRecipes.j1 k l0)) (fun k => by rw [laws_FnRecipes.j0, if_neg Bool.false_ne_true]) ?_
      cases ho : X.2 with
      | false => simp only [Bool.false_eq_true, if_false]; exact h1
      | true =>
        obtain ⟨⟨g1, g2, g3⟩, g4, g5, g6, g7⟩ := my ho
        simp only [if_true]
        rw [wrap_id (100 - sh) (by omega) (by omega)]
        refine Ev.bind (m3 (100 - sh)) (Ev.bind m4 ?_)
        rw [g6, g7, ← g4]
        simp only [if_true]
        refine Ev.bind mp ?_
        simp only [if_true]
        refine Ev.bind mpa ?_
        simp only [if_true]
        refine Ev.bind mi ?_
        rw [g4, g5]
        simp only [if_true]
        exact h1
    obtain ⟨K, hK⟩ := fin
    exact ⟨K, hK K (Nat.le_refl _)⟩
end Go.Proofs.YtfeighajmkcjfaaGreatDoor.Pure
