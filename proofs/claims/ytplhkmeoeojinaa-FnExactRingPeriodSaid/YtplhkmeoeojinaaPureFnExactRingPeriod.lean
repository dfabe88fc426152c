/- The plain law of FnExactRingPeriod: what the program's functions compute is what the reference's compute. No program and no memory in it. -/
import Derived.Test.YtplhkmeoeojinaaHx7
import Derived.Test.YtplhkmeoeojinaaLps
namespace Go.Proofs.Ytplhkmeoeojinaa.Pure
open Go.RowKit Go.Proofs.YtplhkmeoeojinaaW.PrintWords Go.Proofs.YtplhkmeoeojinaaW.PrintLast Go.Proofs.Ytplhkmeoeojinaa.H
set_option linter.unusedVariables false
set_option linter.unusedSimpArgs false
theorem Ev.foldK {σ ρ : Type} (g : Nat → Int → σ → Option ρ) (n : Nat) (f : Nat → σ → σ) (Inv : Nat → σ → Prop) (r : ρ)
    (hstep : ∀ (i : Nat) s, i < n → Inv i s → Inv (i + 1) (f i s) ∧ (Ev (fun k => g k ((i : Int) + 1) (f i s)) r → Ev (fun k => g k (i : Int) s) r))
    (s : σ) (h0 : Inv 0 s) (hend : Ev (fun k => g k (n : Int) (loopN f n s)) r) : Ev (fun k => g k 0 s) r := by
  have key : ∀ i, i ≤ n → Inv i (loopN f i s) ∧ (Ev (fun k => g k (i : Int) (loopN f i s)) r → Ev (fun k => g k 0 s) r) := by
    intro i
    induction i with
    | zero => exact fun _ => ⟨h0, fun h => h⟩
    | succ i ih =>
      intro hi
      obtain ⟨h1, h2⟩ := ih (by omega)
      obtain ⟨h3, h4⟩ := hstep i _ (by omega) h1
      refine ⟨h3, fun h => h2 (h4 ?_)⟩
      have e : ((i + 1 : Nat) : Int) = (i : Int) + 1 := by omega
      rw [e] at h
      exact h
  exact (key n (Nat.le_refl _)).2 hend
theorem loopN_inv {σ : Type} (f : Nat → σ → σ) (Inv : Nat → σ → Prop) (n : Nat) (hstep : ∀ i s, i < n → Inv i s → Inv (i + 1) (f i s)) (s : σ) (h0 : Inv 0 s) : Inv n (loopN f n s) := by
  have key : ∀ i, i ≤ n → Inv i (loopN f i s) := by
    intro i
    induction i with
    | zero => exact fun _ => h0
    | succ i ih => exact fun hi => hstep i _ (by omega) (ih (by omega))
  exact key n (Nat.le_refl _)
def okR (n : Int) (b : Nat) (s : List Int) : Prop := s.length ≤ b ∧ (∀ x ∈ s, 0 ≤ x ∧ x < n) ∧ 1 ≤ s.length
theorem okR_new (n : Int) (b : Nat) (s : List Int) (x : Int) (hs : s.length ≤ b ∧ ∀ x ∈ s, 0 ≤ x ∧ x < n) (h0 : 0 ≤ x) (h1 : x < n) : okR n (b + 1) (s ++ [x]) := by
  refine ⟨by rw [List.length_append]; exact Nat.succ_le_succ hs.1, fun y hy => ?_, by rw [List.length_append, List.length_singleton]; omega⟩
  rcases List.mem_append.1 hy with hy | hy
  · exact hs.2 y hy
  · rw [List.mem_singleton.1 hy]; exact ⟨h0, h1⟩
theorem okR_add (n : Int) (b : Nat) (s : List Int) (x : Int) (hs : okR n b s) (h0 : 0 ≤ x) (h1 : x < n) : okR n (b + 1) (s ++ [x]) := okR_new n b s x ⟨hs.1, hs.2.1⟩ h0 h1
theorem places3 (w h : Int) (hw : 2 ≤ w ∧ w ≤ 8) (hh : 2 ≤ h ∧ h ≤ 8) (s : List Int) (b : Nat) (hb : b ≤ 1000) (hs : okR (w * h) b s) : ∃ r, okR (w * h) (b + 8) r ∧ Ev (fun k => spec_l8Places.l3 k w s (h - 2)) r := by
  obtain ⟨r, hr, h1⟩ := Ev.loopE (fun k i (s : List Int) => spec_l8Places.l3 k w s (h - 2 - i)) (h - 2).toNat (fun i s => okR (w * h) (b + i) s) (fun r => okR (w * h) (b + 8) r)
    (fun s hs => ⟨s, ⟨by have := hs.1; omega, hs.2⟩, Ev.step (fun k => by rw [spec_l8Places.l3, if_neg (by omega)]) (Ev.now _)⟩)
    (fun i s hi hs => by
      have q1 : 0 ≤ (h - 2 - (i : Int)) * w := Int.mul_nonneg (by omega) (by omega)
      have q2 : (h - 2 - (i : Int)) * w ≤ (h - 1) * w := Int.mul_le_mul_of_nonneg_right (by omega) (by omega)
      have q3 : (h - 1) * w ≤ 7 * 8 := Int.mul_le_mul (by omega) hw.2 (by omega) (by omega)
      have q4 : w * h = (h - 1) * w + w := by rw [Int.sub_mul, Int.one_mul, Int.mul_comm]; omega
      have := hs.1
      refine ⟨s ++ [(h - 2 - (i : Int)) * w], okR_add _ _ _ _ hs q1 (by omega), fun r h2 => Ev.step (fun k => ?_) h2⟩
      rw [spec_l8Places.l3, if_pos (by omega), if_pos (by omega), wrap_id _ (by omega) (by omega), wrap_id _ (by omega) (by omega), show h - 2 - (i : Int) - 1 = h - 2 - ((i : Int) + 1) by omega]) s hs
  refine ⟨r, hr, ?_⟩
  have e : h - 2 - 0 = h - 2 := by omega
  simp only [e] at h1
  exact h1
theorem places2 (w h : Int) (hw : 2 ≤ w ∧ w ≤ 8) (hh : 2 ≤ h ∧ h ≤ 8) (s : List Int) (b : Nat) (hb : b ≤ 900) (hs : okR (w * h) b s) : ∃ r, okR (w * h) (b + 16) r ∧ Ev (fun k => spec_l8Places.l2 k w h s (w - 2)) r := by
  obtain ⟨r, hr, h1⟩ := Ev.loopE (fun k i (s : List Int) => spec_l8Places.l2 k w h s (w - 2 - i)) (w - 1).toNat (fun i s => okR (w * h) (b + i) s) (fun r => okR (w * h) (b + 16) r)
    (fun s hs => by
      obtain ⟨r, hr, h2⟩ := places3 w h hw hh s (b + (w - 1).toNat) (by omega) hs
      refine ⟨r, ⟨by have := hr.1; omega, hr.2⟩, Ev.step (fun k => ?_) h2⟩
      rw [spec_l8Places.l2, if_neg (by omega), wrap_id _ (by omega) (by omega)])
    (fun i s hi hs => by
      have q1 : 0 ≤ (h - 1) * w := Int.mul_nonneg (by omega) (by omega)
      have q3 : (h - 1) * w ≤ 7 * 8 := Int.mul_le_mul (by omega) hw.2 (by omega) (by omega)
      have q4 : w * h = (h - 1) * w + w := by rw [Int.sub_mul, Int.one_mul, Int.mul_comm]; omega
      have := hs.1
      refine ⟨s ++ [(h - 1) * w + (w - 2 - (i : Int))], okR_add _ _ _ _ hs (by omega) (by omega), fun r h2 => Ev.step (fun k => ?_) h2⟩
      rw [spec_l8Places.l2, if_pos (by omega), if_pos (by omega), wrap_id (h - 1) (by omega) (by omega), wrap_id ((h - 1) * w) (by omega) (by omega), wrap_id _ (by omega) (by omega), wrap_id _ (by omega) (by omega), show w - 2 - (i : Int) - 1 = w - 2 - ((i : Int) + 1) by omega]) s hs
  refine ⟨r, hr, ?_⟩
  have e : w - 2 - 0 = w - 2 := by omega
  simp only [e] at h1
  exact h1
theorem places1 (w h : Int) (hw : 2 ≤ w ∧ w ≤ 8) (hh : 2 ≤ h ∧ h ≤ 8) (s : List Int) (b : Nat) (hb : b ≤ 800) (hs : okR (w * h) b s) : ∃ r, okR (w * h) (b + 24) r ∧ Ev (fun k => spec_l8Places.l1 k w h s 1) r := by
  exact Ev.loopE (fun k i (s : List Int) => spec_l8Places.l1 k w h s (i + 1)) (h - 1).toNat (fun i s => okR (w * h) (b + i) s) (fun r => okR (w * h) (b + 24) r)
    (fun s hs => by
      obtain ⟨r, hr, h2⟩ := places2 w h hw hh s (b + (h - 1).toNat) (by omega) hs
      refine ⟨r, ⟨by have := hr.1; omega, hr.2⟩, Ev.step (fun k => ?_) h2⟩
      rw [spec_l8Places.l1, if_neg (by omega), wrap_id _ (by omega) (by omega)])
    (fun i s hi hs => by
      have q1 : 0 ≤ ((i : Int) + 1) * w := Int.mul_nonneg (by omega) (by omega)
      have q2 : ((i : Int) + 1) * w ≤ (h - 1) * w := Int.mul_le_mul_of_nonneg_right (by omega) (by omega)
      have q3 : (h - 1) * w ≤ 7 * 8 := Int.mul_le_mul (by omega) hw.2 (by omega) (by omega)
      have q4 : w * h = (h - 1) * w + w := by rw [Int.sub_mul, Int.one_mul, Int.mul_comm]; omega
      have := hs.1
      refine ⟨s ++ [((i : Int) + 1) * w + w - 1], okR_add _ _ _ _ hs (by omega) (by omega), fun r h2 => Ev.step (fun k => ?_) h2⟩
      rw [spec_l8Places.l1, if_pos (by omega), if_pos (by omega), wrap_id (((i : Int) + 1) * w) (by omega) (by omega), wrap_id (((i : Int) + 1) * w + w) (by omega) (by omega), wrap_id _ (by omega) (by omega), wrap_id _ (by omega) (by omega)]) s hs
theorem places_ev (w h : Int) (hw : 2 ≤ w ∧ w ≤ 8) (hh : 2 ≤ h ∧ h ≤ 8) : ∃ r, okR (w * h) 32 r ∧ Ev (fun k => spec_l8Places.f k w h) r := by
  exact Ev.loopE (fun k i (s : List Int) => spec_l8Places.l0 k w h s i) w.toNat (fun i s => (s.length ≤ i ∧ ∀ x ∈ s, 0 ≤ x ∧ x < w * h) ∧ (1 ≤ i → 1 ≤ s.length)) (fun r => okR (w * h) 32 r)
    (fun s hs => by
      obtain ⟨r, hr, h2⟩ := places1 w h hw hh s w.toNat (by omega) ⟨hs.1.1, hs.1.2, hs.2 (by omega)⟩
      refine ⟨r, ⟨by have := hr.1; omega, hr.2⟩, Ev.step (fun k => ?_) h2⟩
      rw [spec_l8Places.l0, if_neg (by omega)])
    (fun i s hi hs => by
      have q2 : w * 1 ≤ w * h := Int.mul_le_mul_of_nonneg_left (by omega) (by omega)
      have hs1 := hs.1.1
      refine ⟨s ++ [(i : Int)], ⟨⟨(okR_new _ _ _ _ hs.1 (by omega) (by omega)).1, (okR_new _ _ _ _ hs.1 (by omega) (by omega)).2.1⟩, fun _ => (okR_new _ _ _ _ hs.1 (by omega) (by omega)).2.2⟩, fun r h2 => Ev.step (fun k => ?_) h2⟩
      rw [spec_l8Places.l0, if_pos (by omega), if_pos (by omega), wrap_id _ (by omega) (by omega)]) [] ⟨⟨by simp, fun x hx => by cases hx⟩, fun h => absurd h (by omega)⟩
theorem ring3_eq (k : Nat) : ∀ w s i, impl_ringPlaces.l3 k w s i = spec_l8Places.l3 k w s i := by
  induction k with
  | zero => intro w s i; rfl
  | succ k ih => intro w s i; rw [impl_ringPlaces.l3, spec_l8Places.l3]; simp only [ih]
theorem ring2_eq (k : Nat) : ∀ w h s i, impl_ringPlaces.l2 k w h s i = spec_l8Places.l2 k w h s i := by
  induction k with
  | zero => intro w h s i; rfl
  | succ k ih => intro w h s i; rw [impl_ringPlaces.l2, spec_l8Places.l2]; simp only [ih, ring3_eq]
theorem ring1_eq (k : Nat) : ∀ w h s i, impl_ringPlaces.l1 k w h s i = spec_l8Places.l1 k w h s i := by
  induction k with
  | zero => intro w h s i; rfl
  | succ k ih => intro w h s i; rw [impl_ringPlaces.l1, spec_l8Places.l1]; simp only [ih, ring2_eq]
theorem ring0_eq (k : Nat) : ∀ w h s i, impl_ringPlaces.l0 k w h s w i = spec_l8Places.l0 k w h s i := by
  induction k with
  | zero => intro w h s i; rfl
  | succ k ih => intro w h s i; rw [impl_ringPlaces.l0, spec_l8Places.l0]; simp only [ih, ring1_eq]
theorem implPlaces_ev (w h : Int) (r : List Int) (hs : Ev (fun k => spec_l8Places.f k w h) r) : Ev (fun k => impl_ringPlaces.f k w h) r := by
  refine Ev.congr (fun k => ?_) hs
  unfold impl_ringPlaces.f spec_l8Places.f
  rw [ring0_eq]
theorem l1In_eq (a b c : Int) : spec_l1In.f a b c = some (rng a b c) := spec_l1In.eq a b c
theorem in_eq (a b c : Int) : impl_in.f a b c = some (rng a b c) := impl_in.eq a b c
theorem ext_getD {α : Type} (z : α) (a b : List α) (hl : a.length = b.length) (h : ∀ j, j < a.length → a.getD j z = b.getD j z) : a = b := by
  apply List.ext_getElem hl
  intro j h1 h2
  have := h j h1
  rwa [List.getD_eq_getElem?_getD, List.getD_eq_getElem?_getD, List.getElem?_eq_getElem h1, List.getElem?_eq_getElem h2] at this
theorem take_succ_getD {α : Type} (z : α) (a : List α) (i : Nat) (h : i < a.length) : a.take (i + 1) = a.take i ++ [a.getD i z] := by
  rw [List.take_succ_eq_append_getElem h, List.getD_eq_getElem?_getD, List.getElem?_eq_getElem h]
  rfl
theorem getD_map' {α β : Type} (f : α → β) (z : α) (y : β) (a : List α) (i : Nat) (h : i < a.length) : (a.map f).getD i y = f (a.getD i z) := by
  rw [List.getD_eq_getElem?_getD, List.getElem?_map, List.getD_eq_getElem?_getD, List.getElem?_eq_getElem h]
  rfl
theorem set_mid {α : Type} (f : α → α) (z : α) (a : List α) (i : Nat) (h : i < a.length) : ((a.take i).map f ++ a.drop i).set i (f (a.getD i z)) = (a.take (i + 1)).map f ++ a.drop (i + 1) := by
  have e : a.drop i = a.getD i z :: a.drop (i + 1) := by
    rw [List.drop_eq_getElem_cons h, List.getD_eq_getElem?_getD, List.getElem?_eq_getElem h]
    rfl
  rw [e, take_succ_getD z a i h, List.map_append, List.append_assoc]
  have hl : ((a.take i).map f).length = i := by rw [List.length_map, List.length_take]; omega
  rw [List.set_append_right _ _ (by omega), hl, Nat.sub_self]
  rfl
theorem mid_getD {α : Type} (f : α → α) (z : α) (a : List α) (i : Nat) (h : i < a.length) : ((a.take i).map f ++ a.drop i).getD i z = a.getD i z := by
  have hl : ((a.take i).map f).length = i := by rw [List.length_map, List.length_take]; omega
  rw [List.getD_eq_getElem?_getD, List.getElem?_append_right (by omega), hl, Nat.sub_self, List.getElem?_drop, Nat.add_zero, List.getD_eq_getElem?_getD]
theorem mid_length {α : Type} (f : α → α) (a : List α) (i : Nat) : ((a.take i).map f ++ a.drop i).length = a.length := by
  rw [List.length_append, List.length_map, List.length_take, List.length_drop]; omega
def okChart (w h : Int) (l : List Int) : Bool := (l.all fun x => rng x 0 5) && (rng w 1 8 && (rng h 1 8 && ((l.length : Int) == wrap64 (w * h))))
theorem okChart_iff (w h : Int) (l : List Int) (hk : okChart w h l = true) : (∀ i, i < l.length → 0 ≤ l.getD i 0 ∧ l.getD i 0 ≤ 5) ∧ (1 ≤ w ∧ w ≤ 8) ∧ (1 ≤ h ∧ h ≤ 8) ∧ (l.length : Int) = w * h ∧ l.length ≤ 64 := by
  unfold okChart at hk
  simp only [Bool.and_eq_true, rng_iff, beq_iff_eq] at hk
  obtain ⟨h1, h2, h3, h4⟩ := hk
  have p0 : 0 ≤ w * h := Int.mul_nonneg (by omega) (by omega)
  have p1 : w * h ≤ 8 * 8 := Int.mul_le_mul h2.2 h3.2 (by omega) (by omega)
  rw [wrap_id _ (by omega) (by omega)] at h4
  refine ⟨fun i hi => ?_, h2, h3, h4, by omega⟩
  have := (all_getD 0 l _).1 h1 i hi
  exact (rng_iff _ _ _).1 this
theorem l2Good_ev (w h : Int) (l : List Int) (hl : l.length ≤ 2000000) : Ev (fun k => spec_l2Good.f k w h l) (okChart w h l) := by
  unfold spec_l2Good.f
  have e : okChart w h l = ((List.range l.length).all (fun i => rng (l.getD i 0) 0 5) && (rng w 1 8 && (rng h 1 8 && ((l.length : Int) == wrap64 (w * h))))) := by
    unfold okChart
    congr 1
    rw [Bool.eq_iff_iff, all_getD 0, all_range]
  rw [e]
  refine Ev.scan (fun k i => spec_l2Good.l0 k i w h l) l.length _ _ (Ev.step (f := fun _ => some _) (fun k => ?_) (Ev.now _)) ?_ ?_
  · rw [spec_l2Good.l0, if_neg (by omega)]
    unfold spec_l2Side.f
    simp only [l1In_eq, Option.bind_some]
    cases rng w 1 8 <;> cases rng h 1 8 <;> rfl
  · intro i hi hg
    refine Ev.step (f := fun _ => some false) (fun k => ?_) (Ev.now _)
    rw [spec_l2Good.l0, if_pos (by omega), if_pos (by omega)]
    unfold spec_l2Color.f
    have e0 : rd l (i : Int) = l.getD i 0 := rfl
    rw [l1In_eq, e0, hg]
    rfl
  · intro i r hi hg hr
    refine Ev.step (fun k => ?_) hr
    rw [spec_l2Good.l0, if_pos (by omega), if_pos (by omega)]
    unfold spec_l2Color.f
    have e0 : rd l (i : Int) = l.getD i 0 := rfl
    rw [l1In_eq, e0, hg, wrap_id _ (by omega) (by omega)]
    rfl
theorem IsChart_eq (w h : Int) (l : List Int) : impl_IsChart.f w h l = some (okChart w h l) := by
  unfold impl_IsChart.f impl_isSide.f areAll_impl_isColor.f okChart
  simp only [in_eq, Option.bind_some]
  by_cases e : (l.length : Int) = wrap64 (w * h)
  · rw [if_pos e, beq_iff_eq.2 e]
    cases rng w 1 8 <;> cases rng h 1 8 <;> simp
  · rw [if_neg e, beq_eq_false_iff_ne.2 e]
    cases rng w 1 8 <;> cases rng h 1 8 <;> simp
theorem szChart1 (w h : Int) (l : List Int) (hk : ¬ (l.length : Int) ≤ 1048576) (hm : l.length ≤ maxLen) : laws_szChart.f w h l 1048576 = some (-1) := by
  have hm' : l.length ≤ 9223372036854775807 := hm
  unfold laws_szChart.f laws_szIntS.f
  rw [wrap_id _ (by omega) (by omega), if_pos (by omega)]
  rfl
theorem szChart2 (w h : Int) (l : List Int) (hk : (l.length : Int) ≤ 1048576) : laws_szChart.f w h l 1048576 = some (1048576 - (l.length : Int)) := by
  unfold laws_szChart.f laws_szIntS.f
  rw [wrap_id _ (by omega) (by omega), if_neg (by omega), Option.bind_some, if_neg (by omega)]
theorem toInts_ev (l : List Int) (hl : l.length ≤ 2000000) : ∃ t : List Int, t.length = l.length ∧ Ev (fun k => laws_toIntS.f k l) t := by
  obtain ⟨r, hr, h⟩ := Ev.loopE (fun k i (s : List Int) => laws_toIntS.l0 k l s i) l.length (fun _ s => s.length = l.length) (fun r => r.length = l.length)
    (fun s hs => ⟨s, hs, Ev.step (fun k => by rw [laws_toIntS.l0, if_neg (by omega)]) (Ev.now s)⟩)
    (fun i s hi hs => ⟨s.set i (rd l i), by simp [hs], fun r h => Ev.step (fun k => by
      rw [laws_toIntS.l0, if_pos (by omega), if_pos (by omega), if_pos (by omega), wrap_id _ (by omega) (by omega), Int.toNat_natCast]) h⟩) (List.replicate l.length 0) (by simp)
  refine ⟨r, hr, Ev.congr (fun k => ?_) h⟩
  unfold laws_toIntS.f
  rw [if_pos (by omega), if_pos (by omega), Int.toNat_natCast]
theorem toChart_ev (w h : Int) (l : List Int) (hl : l.length ≤ 2000000) : ∃ t : List Int, t.length = l.length ∧ Ev (fun k => laws_toChart.f k w h l) (w, h, t) := by
  obtain ⟨t, ht, hv⟩ := toInts_ev l hl
  exact ⟨t, ht, by unfold laws_toChart.f; exact Ev.bind hv (Ev.now _)⟩
def okRing (w h : Int) (l : List Int) : Bool := okChart w h l && (rng w 2 8 && rng h 2 8)
theorem l8Good_ev (w h : Int) (l : List Int) (hl : l.length ≤ 2000000) : Ev (fun k => spec_l8Good.f k w h l) (okRing w h l) := by
  unfold spec_l8Good.f okRing spec_l8Side.f
  refine Ev.bind (l2Good_ev w h l hl) ?_
  simp only [l1In_eq, Option.bind_some]
  cases okChart w h l <;> cases rng w 2 8 <;> exact Ev.now _
theorem hasRing_eq (w h : Int) (l : List Int) : impl_hasRing.f w h l = some (okRing w h l) := by
  unfold impl_hasRing.f okRing impl_isRingSide.f
  simp only [IsChart_eq, in_eq, Option.bind_some]
  cases okChart w h l <;> cases rng w 2 8 <;> rfl
theorem ring_same (w h : Int) (l : List Int) (hk : okRing w h l = true) : ∃ r : List Int, (0 < r.length ∧ r.length ≤ 32) ∧ Ev (fun k => spec_l8Ring.f k w h l) r ∧ Ev (fun k => impl_Chart_ring.f k w h l) r := by
  unfold okRing at hk
  rw [Bool.and_eq_true, Bool.and_eq_true, rng_iff, rng_iff] at hk
  obtain ⟨hk, hw, hh⟩ := hk
  obtain ⟨_, _, _, hlen, h64⟩ := okChart_iff w h l hk
  obtain ⟨p, ⟨hp1, hp2, hp3⟩, hp⟩ := places_ev w h hw hh
  obtain ⟨r, hr, h1, h2⟩ := Ev.two (fun k i (s : List Int) => spec_l8Ring.l0 k p s i w h l) (fun k i (s : List Int) => impl_Chart_ring.l0 k s p (p.length : Int) i w h l) p.length (fun i s t => s = t ∧ s.length = i) (fun r => 0 < r.length ∧ r.length ≤ 32)
    (fun s t hs => by
      obtain ⟨rfl, hn⟩ := hs
      exact ⟨s, by omega, Ev.step (f := fun _ => some s) (fun k => by rw [spec_l8Ring.l0, if_neg (by omega)]) (Ev.now _), Ev.step (f := fun _ => some s) (fun k => by rw [impl_Chart_ring.l0, if_neg (by omega)]) (Ev.now _)⟩)
    (fun i s t hi hs => by
      obtain ⟨rfl, hn⟩ := hs
      have e0 : rd p (i : Int) = p.getD i 0 := rfl
      have hm : p.getD i 0 ∈ p := by
        rw [List.getD_eq_getElem?_getD, List.getElem?_eq_getElem hi]
        exact List.getElem_mem hi
      have hx := hp2 _ hm
      refine .inr ⟨s ++ [rd l (p.getD i 0)], _, ⟨rfl, by rw [List.length_append, hn]; rfl⟩, fun r h => Ev.step (fun k => ?_) h, fun r h => Ev.step (fun k => ?_) h⟩
      · rw [spec_l8Ring.l0, if_pos (by omega), if_pos (by omega), e0, if_pos (by omega), if_pos (by omega), if_pos (by omega), wrap_id _ (by omega) (by omega)]
      · rw [impl_Chart_ring.l0, if_pos (by omega), if_pos (by omega), if_pos (by omega), e0, if_pos (by omega), if_pos (by omega), if_pos (by omega), wrap_id _ (by omega) (by omega)]) [] [] ⟨rfl, rfl⟩
  refine ⟨r, hr, ?_, ?_⟩
  · unfold spec_l8Ring.f; exact Ev.bind hp h1
  · unfold impl_Chart_ring.f; exact Ev.bind (implPlaces_ev w h p hp) h2
theorem scan_ev (l : List Int) (p : Int) (hl : l.length ≤ 999) (hp : 1 ≤ p ∧ p < (l.length : Int)) (r : Int × Bool) (hno : isPer l p = false → Ev (fun k => spec_RingPeriod.l0 k l (p + 1)) r) (hyes : isPer l p = true → r = (p, true)) (d : Nat) :
    ∀ (i : Nat) (same : Bool), i + d = l.length → (same = true → Int.tmod (l.length : Int) p = 0 ∧ ∀ j : Nat, j < i → perAt l p (j : Int)) → (same = false → isPer l p = false) → Ev (fun k => spec_RingPeriod.l1 k l p same (i : Int)) r := by
  induction d with
  | zero =>
    intro i same hi h1 h2
    cases same with
    | false => exact Ev.step (fun k => by rw [spec_RingPeriod.l1, if_neg (by omega), if_neg (by decide), wrap_id _ (by omega) (by omega)]) (hno (h2 rfl))
    | true =>
      obtain ⟨h3, h4⟩ := h1 rfl
      have e : isPer l p = true := by
        rw [isPer_rest l p (fun j hj => h4 j (by omega)), h3]
        rfl
      rw [hyes e]
      exact Ev.step (f := fun _ => some (p, true)) (fun k => by rw [spec_RingPeriod.l1, if_neg (by omega), if_pos rfl]) (Ev.now _)
  | succ d ih =>
    intro i same hi h1 h2
    cases same with
    | false => exact Ev.step (fun k => by rw [spec_RingPeriod.l1, if_pos (by omega), if_neg (by decide), wrap_id _ (by omega) (by omega)]) (hno (h2 rfl))
    | true =>
      obtain ⟨h3, h4⟩ := h1 rfl
      have e1 : ((i + 1 : Nat) : Int) = (i : Int) + 1 := by omega
      have q0 : 0 ≤ Int.tmod ((i : Int) + p) (l.length : Int) := Int.tmod_nonneg _ (by omega)
      have q1 : Int.tmod ((i : Int) + p) (l.length : Int) < (l.length : Int) := Int.tmod_lt_of_pos _ (by omega)
      have G := ih (i + 1) (rd l (i : Int) == rd l (Int.tmod ((i : Int) + p) (l.length : Int))) (by omega)
        (fun hs => ⟨h3, fun j hj => by
          by_cases e : j = i
          · rw [e]; exact beq_iff_eq.1 hs
          · exact h4 j (by omega)⟩)
        (fun hs => isPer_false l p i (by omega) (by
          intro h
          have h' : rd l (i : Int) = rd l (Int.tmod ((i : Int) + p) (l.length : Int)) := h
          rw [beq_iff_eq.2 h'] at hs
          cases hs))
      rw [e1] at G
      exact Ev.step (fun k => by rw [spec_RingPeriod.l1, if_pos (by omega), if_pos rfl, if_pos (by omega), if_neg (by omega), wrap_id ((i : Int) + p) (by omega) (by omega), if_pos q0, if_pos q1, wrap_id ((i : Int) + 1) (by omega) (by omega)]) G
theorem period_ev (l : List Int) (h0 : 0 < l.length) (hl : l.length ≤ 999) (d : Nat) : ∀ p : Int, 1 ≤ p → p + (d : Int) = (l.length : Int) → Ev (fun k => spec_RingPeriod.l0 k l p) (perFrom l (d + 1) p, true) := by
  induction d with
  | zero =>
    intro p hp h
    have e : p = (l.length : Int) := by omega
    subst e
    rw [perFrom, if_pos (isPer_len l h0)]
    exact Ev.step (f := fun _ => some ((l.length : Int), true)) (fun k => by rw [spec_RingPeriod.l0, if_neg (by omega)]) (Ev.now _)
  | succ d ih =>
    intro p hp h
    have G := ih (p + 1) (by omega) (by omega)
    refine Ev.step (fun k => by rw [spec_RingPeriod.l0, if_pos (by omega), if_neg (by omega)]; rfl) (scan_ev l p hl ⟨hp, by omega⟩ _ (fun hn => ?_) (fun hy => ?_) l.length 0 ((l.length : Int) % p == 0) (by omega) (fun hs => ⟨?_, fun j hj => absurd hj (by omega)⟩) (fun hs => ?_))
    · rw [perFrom, if_neg (by rw [hn]; decide)]
      exact G
    · rw [perFrom, if_pos hy]
    · rw [Int.tmod_eq_emod_of_nonneg (by omega)]
      exact beq_iff_eq.1 hs
    · unfold isPer
      rw [Int.tmod_eq_emod_of_nonneg (show (0 : Int) ≤ (l.length : Int) by omega), hs, Bool.and_false]
theorem RingPeriod_same (w h : Int) (l : List Int) (hl : l.length ≤ 2000000) : ∃ r : Int × Bool, Ev (fun k => spec_RingPeriod.f k w h l) r ∧ Ev (fun k => impl_RingPeriod.f k w h l) r := by
  unfold spec_RingPeriod.f impl_RingPeriod.f
  simp only [hasRing_eq, Option.bind_some]
  cases hk : okRing w h l with
  | false =>
    refine ⟨(0, false), Ev.bind (l8Good_ev w h l hl) ?_, ?_⟩
    · simp only [hk, Bool.false_eq_true, if_false]; exact Ev.now _
    · simp only [Bool.false_eq_true, if_false]; exact Ev.now _
  | true =>
    obtain ⟨r, hr, h1, h2⟩ := ring_same w h l hk
    have G := period_ev r hr.1 (by omega) (r.length - 1) 1 (by omega) (by omega)
    rw [show r.length - 1 + 1 = r.length by omega] at G
    refine ⟨(perFrom r r.length 1, true), Ev.bind (l8Good_ev w h l hl) ?_, ?_⟩
    · simp only [hk, if_true]; exact Ev.bind h1 G
    · simp only [if_true]
      refine Ev.bind h2 ?_
      simp only [if_pos (show 0 < r.length ∧ r.length ≤ 999 from ⟨hr.1, by omega⟩)]
      exact Ev.now _
theorem eqInts_ev (t : List Int) (ht : t.length ≤ 2000000) : Ev (fun k => laws_eqIntS.f k t t) true := by
  refine Ev.congr (f := fun k => laws_eqIntS.l0 k t t 0) (fun k => by unfold laws_eqIntS.f; rw [if_pos rfl]) ?_
  obtain ⟨r, hr, h⟩ := Ev.loopE (fun k i (_ : Unit) => laws_eqIntS.l0 k t t i) t.length (fun _ _ => True) (fun r => r = true)
    (fun s _ => ⟨true, rfl, Ev.step (fun k => by rw [laws_eqIntS.l0, if_neg (by omega)]) (Ev.now true)⟩)
    (fun i s hi _ => ⟨(), trivial, fun r h => Ev.step (fun k => by
      rw [laws_eqIntS.l0, if_pos (by omega), if_pos (by omega), if_pos (by omega), if_pos rfl, wrap_id _ (by omega) (by omega)]) h⟩) () trivial
  subst hr
  exact h
theorem eqChart_ev (w h : Int) (t : List Int) (hl : t.length ≤ 2000000) : Ev (fun k => laws_eqChart.f k w h t w h t) true := by
  unfold laws_eqChart.f
  simp only [if_true]
  exact Ev.bind (eqInts_ev t hl) (by simp only [if_true]; exact Ev.now _)
theorem FnExactRingPeriod (a0_0 : Int) (a0_1 : Int) (l0_2 : List (Int)) (q_a0_0 : (Lit.int .i64 a0_0).wf = true) (q_a0_1 : (Lit.int .i64 a0_1).wf = true) (q_l0_2 : (l0_2.length ≤ maxLen ∧ ∀ q ∈ l0_2, (Lit.int .i64 q).wf = true)) : ∃ k, laws_FnExactRingPeriod.f k a0_0 a0_1 l0_2 = some true := by
  by_cases hl : (l0_2.length : Int) ≤ 1048576
  · obtain ⟨t, ht, K1, h1⟩ := toChart_ev a0_0 a0_1 l0_2 (by omega)
    obtain ⟨r, ⟨K2, h2⟩, K3, h3⟩ := RingPeriod_same a0_0 a0_1 t (by omega)
    obtain ⟨K4, h4⟩ := eqChart_ev a0_0 a0_1 t (by omega)
    obtain ⟨N, hN⟩ : ∃ N, N = K1 + K2 + K3 + K4 := ⟨_, rfl⟩
    replace h1 := fun j => h1 (N + j) (by omega)
    replace h2 := fun j => h2 (N + j) (by omega)
    replace h3 := fun j => h3 (N + j) (by omega)
    replace h4 := fun j => h4 (N + j) (by omega)
    dsimp only at h1 h2 h3 h4
    refine ⟨N + 4, ?_⟩
    unfold laws_FnExactRingPeriod.f
    rw [szChart2 a0_0 a0_1 l0_2 hl, Option.bind_some, if_neg (by omega)]
    simp only [h1, h2, h3, h4, laws_FnExactRingPeriod.j0, Option.bind_some, if_true, if_false, bne_self_eq_false, Bool.false_eq_true]
  · refine ⟨0, ?_⟩
    unfold laws_FnExactRingPeriod.f
    rw [szChart1 a0_0 a0_1 l0_2 hl q_l0_2.1]
    rfl
end Go.Proofs.Ytplhkmeoeojinaa.Pure
