/- The plain law of FnExactShiftPhoto: what the program's functions compute is what the reference's compute. No program and no memory in it. -/
import Derived.Test.YtcjalfgnnabghaaHx20
import Derived.Test.YtcjalfgnnabghaaLps
namespace Go.Proofs.Ytcjalfgnnabghaa.Pure
open Go.RowKit Go.Proofs.YtcjalfgnnabghaaW.PrintWords Go.Proofs.YtcjalfgnnabghaaW.PrintLast Go.Proofs.Ytcjalfgnnabghaa.H
set_option linter.unusedVariables false
set_option linter.unusedSimpArgs false
theorem l1In_eq (a b c : Int) : spec_l1In.f a b c = some (rng a b c) := spec_l1In.eq a b c
theorem in_eq (a b c : Int) : impl_in.f a b c = some (rng a b c) := impl_in.eq a b c
theorem ext_getD {α : Type} (z : α) (a b : List α) (hl : a.length = b.length) (h : ∀ j, j < a.length → a.getD j z = b.getD j z) : a = b := by
  apply List.ext_getElem hl
  intro j h1 h2
  have := h j h1
  rwa [List.getD_eq_getElem?_getD, List.getD_eq_getElem?_getD, List.getElem?_eq_getElem h1, List.getElem?_eq_getElem h2] at this
theorem take_succ_getD {α : Type} (z : α) (a : List α) (i : Nat) (h : i < a.length) : a.take (i + 1) = a.take i ++ [a.getD i z] := by
  rw [List.take_succ_eq_append_getElem h, List.getD_eq_getElem?_getD, List.getElem?_eq_getElem h]
  rfl
theorem getD_map' {α β : Type} (f : α → β) (z : α) (y : β) (a : List α) (i : Nat) (h : i < a.length) : (a.map f).getD i y = f (a.getD i z) := by
  rw [List.getD_eq_getElem?_getD, List.getElem?_map, List.getD_eq_getElem?_getD, List.getElem?_eq_getElem h]
  rfl
theorem set_mid {α : Type} (f : α → α) (z : α) (a : List α) (i : Nat) (h : i < a.length) : ((a.take i).map f ++ a.drop i).set i (f (a.getD i z)) = (a.take (i + 1)).map f ++ a.drop (i + 1) := by
  have e : a.drop i = a.getD i z :: a.drop (i + 1) := by
    rw [List.drop_eq_getElem_cons h, List.getD_eq_getElem?_getD, List.getElem?_eq_getElem h]
    rfl
  rw [e, take_succ_getD z a i h, List.map_append, List.append_assoc]
  have hl : ((a.take i).map f).length = i := by rw [List.length_map, List.length_take]; omega
  rw [List.set_append_right _ _ (by omega), hl, Nat.sub_self]
  rfl
theorem mid_getD {α : Type} (f : α → α) (z : α) (a : List α) (i : Nat) (h : i < a.length) : ((a.take i).map f ++ a.drop i).getD i z = a.getD i z := by
  have hl : ((a.take i).map f).length = i := by rw [List.length_map, List.length_take]; omega
  rw [List.getD_eq_getElem?_getD, List.getElem?_append_right (by omega), hl, Nat.sub_self, List.getElem?_drop, Nat.add_zero, List.getD_eq_getElem?_getD]
theorem mid_length {α : Type} (f : α → α) (a : List α) (i : Nat) : ((a.take i).map f ++ a.drop i).length = a.length := by
  rw [List.length_append, List.length_map, List.length_take, List.length_drop]; omega
def okChart (w h : Int) (l : List Int) : Bool := (l.all fun x => rng x 0 5) && (rng w 1 8 && (rng h 1 8 && ((l.length : Int) == wrap64 (w * h))))
theorem okChart_iff (w h : Int) (l : List Int) (hk : okChart w h l = true) : (∀ i, i < l.length → 0 ≤ l.getD i 0 ∧ l.getD i 0 ≤ 5) ∧ (1 ≤ w ∧ w ≤ 8) ∧ (1 ≤ h ∧ h ≤ 8) ∧ (l.length : Int) = w * h ∧ l.length ≤ 64 := by
  unfold okChart at hk
  simp only [Bool.and_eq_true, rng_iff, beq_iff_eq] at hk
  obtain ⟨h1, h2, h3, h4⟩ := hk
  have p0 : 0 ≤ w * h := Int.mul_nonneg (by omega) (by omega)
  have p1 : w * h ≤ 8 * 8 := Int.mul_le_mul h2.2 h3.2 (by omega) (by omega)
  rw [wrap_id _ (by omega) (by omega)] at h4
  refine ⟨fun i hi => ?_, h2, h3, h4, by omega⟩
  have := (all_getD 0 l _).1 h1 i hi
  exact (rng_iff _ _ _).1 this
theorem l2Good_ev (w h : Int) (l : List Int) (hl : l.length ≤ 2000000) : Ev (fun k => spec_l2Good.f k w h l) (okChart w h l) := by
  unfold spec_l2Good.f
  have e : okChart w h l = ((List.range l.length).all (fun i => rng (l.getD i 0) 0 5) && (rng w 1 8 && (rng h 1 8 && ((l.length : Int) == wrap64 (w * h))))) := by
    unfold okChart
    congr 1
    rw [Bool.eq_iff_iff, all_getD 0, all_range]
  rw [e]
  refine Ev.scan (fun k i => spec_l2Good.l0 k i w h l) l.length _ _ (Ev.step (f := fun _ => some _) (fun k => ?_) (Ev.now _)) ?_ ?_
  · rw [spec_l2Good.l0, if_neg (by omega)]
    unfold spec_l2Side.f
    simp only [l1In_eq, Option.bind_some]
    cases rng w 1 8 <;> cases rng h 1 8 <;> rfl
  · intro i hi hg
    refine Ev.step (f := fun _ => some false) (fun k => ?_) (Ev.now _)
    rw [spec_l2Good.l0, if_pos (by omega), if_pos (by omega)]
    unfold spec_l2Color.f
    have e0 : rd l (i : Int) = l.getD i 0 := rfl
    rw [l1In_eq, e0, hg]
    rfl
  · intro i r hi hg hr
    refine Ev.step (fun k => ?_) hr
    rw [spec_l2Good.l0, if_pos (by omega), if_pos (by omega)]
    unfold spec_l2Color.f
    have e0 : rd l (i : Int) = l.getD i 0 := rfl
    rw [l1In_eq, e0, hg, wrap_id _ (by omega) (by omega)]
    rfl
theorem IsChart_eq (w h : Int) (l : List Int) : impl_IsChart.f w h l = some (okChart w h l) := by
  unfold impl_IsChart.f impl_isSide.f areAll_impl_isColor.f okChart
  simp only [in_eq, Option.bind_some]
  by_cases e : (l.length : Int) = wrap64 (w * h)
  · rw [if_pos e, beq_iff_eq.2 e]
    cases rng w 1 8 <;> cases rng h 1 8 <;> simp
  · rw [if_neg e, beq_eq_false_iff_ne.2 e]
    cases rng w 1 8 <;> cases rng h 1 8 <;> simp
theorem szChart1 (w h : Int) (l : List Int) (hk : ¬ (l.length : Int) ≤ 1048576) (hm : l.length ≤ maxLen) : laws_szChart.f w h l 1048576 = some (-1) := by
  have hm' : l.length ≤ 9223372036854775807 := hm
  unfold laws_szChart.f laws_szIntS.f
  rw [wrap_id _ (by omega) (by omega), if_pos (by omega)]
  rfl
theorem szChart2 (w h : Int) (l : List Int) (hk : (l.length : Int) ≤ 1048576) : laws_szChart.f w h l 1048576 = some (1048576 - (l.length : Int)) := by
  unfold laws_szChart.f laws_szIntS.f
  rw [wrap_id _ (by omega) (by omega), if_neg (by omega), Option.bind_some, if_neg (by omega)]
theorem toInts_ev (l : List Int) (hl : l.length ≤ 2000000) : ∃ t : List Int, t.length = l.length ∧ Ev (fun k => laws_toIntS.f k l) t := by
  obtain ⟨r, hr, h⟩ := Ev.loopE (fun k i (s : List Int) => laws_toIntS.l0 k l s i) l.length (fun _ s => s.length = l.length) (fun r => r.length = l.length)
    (fun s hs => ⟨s, hs, Ev.step (fun k => by rw [laws_toIntS.l0, if_neg (by omega)]) (Ev.now s)⟩)
    (fun i s hi hs => ⟨s.set i (rd l i), by simp [hs], fun r h => Ev.step (fun k => by
      rw [laws_toIntS.l0, if_pos (by omega), if_pos (by omega), if_pos (by omega), wrap_id _ (by omega) (by omega), Int.toNat_natCast]) h⟩) (List.replicate l.length 0) (by simp)
  refine ⟨r, hr, Ev.congr (fun k => ?_) h⟩
  unfold laws_toIntS.f
  rw [if_pos (by omega), if_pos (by omega), Int.toNat_natCast]
theorem toChart_ev (w h : Int) (l : List Int) (hl : l.length ≤ 2000000) : ∃ t : List Int, t.length = l.length ∧ Ev (fun k => laws_toChart.f k w h l) (w, h, t) := by
  obtain ⟨t, ht, hv⟩ := toInts_ev l hl
  exact ⟨t, ht, by unfold laws_toChart.f; exact Ev.bind hv (Ev.now _)⟩
theorem hasPlace_eq (w h : Int) (l : List Int) (hk : okChart w h l = true) (r c : Int) : impl_Chart_hasPlace.f w h l r c = some (rng r 0 (h - 1) && rng c 0 (w - 1)) := by
  obtain ⟨_, hw, hh, hlen, h64⟩ := okChart_iff w h l hk
  unfold impl_Chart_hasPlace.f
  simp only [in_eq, Option.bind_some]
  rw [wrap_id (h - 1) (by omega) (by omega), wrap_id (w - 1) (by omega) (by omega)]
  cases rng r 0 (h - 1) <;> rfl
theorem Ev.foldK {σ ρ : Type} (g : Nat → Int → σ → Option ρ) (n : Nat) (f : Nat → σ → σ) (Inv : Nat → σ → Prop) (r : ρ)
    (hstep : ∀ (i : Nat) s, i < n → Inv i s → Inv (i + 1) (f i s) ∧ (Ev (fun k => g k ((i : Int) + 1) (f i s)) r → Ev (fun k => g k (i : Int) s) r))
    (s : σ) (h0 : Inv 0 s) (hend : Ev (fun k => g k (n : Int) (loopN f n s)) r) : Ev (fun k => g k 0 s) r := by
  have key : ∀ i, i ≤ n → Inv i (loopN f i s) ∧ (Ev (fun k => g k (i : Int) (loopN f i s)) r → Ev (fun k => g k 0 s) r) := by
    intro i
    induction i with
    | zero => exact fun _ => ⟨h0, fun h => h⟩
    | succ i ih =>
      intro hi
      obtain ⟨h1, h2⟩ := ih (by omega)
      obtain ⟨h3, h4⟩ := hstep i _ (by omega) h1
      refine ⟨h3, fun h => h2 (h4 ?_)⟩
      have e : ((i + 1 : Nat) : Int) = (i : Int) + 1 := by omega
      rw [e] at h
      exact h
  exact (key n (Nat.le_refl _)).2 hend
theorem loopN_inv {σ : Type} (f : Nat → σ → σ) (Inv : Nat → σ → Prop) (n : Nat) (hstep : ∀ i s, i < n → Inv i s → Inv (i + 1) (f i s)) (s : σ) (h0 : Inv 0 s) : Inv n (loopN f n s) := by
  have key : ∀ i, i ≤ n → Inv i (loopN f i s) := by
    intro i
    induction i with
    | zero => exact fun _ => h0
    | succ i ih => exact fun hi => hstep i _ (by omega) (ih (by omega))
  exact key n (Nat.le_refl _)
theorem at_idx (w h : Int) (l : List Int) (hk : okChart w h l = true) (r c : Int) (hr : 0 ≤ r ∧ r ≤ h - 1) (hc : 0 ≤ c ∧ c ≤ w - 1) : 0 ≤ r * w + c ∧ r * w + c < (l.length : Int) ∧ 0 ≤ r * w ∧ r * w ≤ 64 := by
  obtain ⟨_, hw, hh, hlen, h64⟩ := okChart_iff w h l hk
  have a : 0 ≤ r * w := Int.mul_nonneg hr.1 (by omega)
  have b : r * w ≤ (h - 1) * w := Int.mul_le_mul_of_nonneg_right hr.2 (by omega)
  rw [Int.sub_mul, Int.one_mul, Int.mul_comm h w] at b
  omega
theorem specAt_eq (w h : Int) (l : List Int) (hk : okChart w h l = true) (r c : Int) (hr : 0 ≤ r ∧ r ≤ h - 1) (hc : 0 ≤ c ∧ c ≤ w - 1) : spec_l2At.f w h l r c = some (rd l (r * w + c)) := by
  obtain ⟨h1, h2, h3, h4⟩ := at_idx w h l hk r c hr hc
  obtain ⟨_, hw, hh, hlen, h64⟩ := okChart_iff w h l hk
  unfold spec_l2At.f
  rw [wrap_id (r * w) (by omega) (by omega), wrap_id (r * w + c) (by omega) (by omega), if_pos h1, if_pos h2]
theorem implAt_eq (w h : Int) (l : List Int) (hk : okChart w h l = true) (r c : Int) (hr : 0 ≤ r ∧ r ≤ h - 1) (hc : 0 ≤ c ∧ c ≤ w - 1) : impl_Chart_at.f w h l r c = some (rd l (r * w + c)) := by
  obtain ⟨h1, h2, h3, h4⟩ := at_idx w h l hk r c hr hc
  obtain ⟨_, hw, hh, hlen, h64⟩ := okChart_iff w h l hk
  unfold impl_Chart_at.f
  rw [wrap_id (r * w) (by omega) (by omega), wrap_id (r * w + c) (by omega) (by omega), if_pos h1, if_pos h2]
theorem within_ev (w h : Int) (l : List Int) (hk : okChart w h l = true) (r c : Int) : Ev (fun k => spec_l2Within.f k w h l r c) (rng r 0 (h - 1) && rng c 0 (w - 1)) := by
  obtain ⟨_, hw, hh, hlen, h64⟩ := okChart_iff w h l hk
  unfold spec_l2Within.f
  refine Ev.bind (l2Good_ev w h l (by omega)) ?_
  simp only [hk, if_true, l1In_eq, Option.bind_some]
  rw [wrap_id (h - 1) (by omega) (by omega), wrap_id (w - 1) (by omega) (by omega)]
  cases rng r 0 (h - 1) <;> exact Ev.now _
def okPhotos (w h : Int) (l : List Int) (w2 h2 : Int) (l2 : List Int) (dr dc : Int) : Bool := okChart w h l && (okChart w2 h2 l2 && (rng dr (-2) 2 && rng dc (-2) 2))
theorem specShift_ev (w h : Int) (l : List Int) (w2 h2 : Int) (l2 : List Int) (dr dc : Int) (hl : l.length ≤ 2000000) (hl2 : l2.length ≤ 2000000) : Ev (fun k => spec_l13Shift.f k w h l w2 h2 l2 dr dc) (okPhotos w h l w2 h2 l2 dr dc) := by
  unfold spec_l13Shift.f okPhotos
  refine Ev.bind (l2Good_ev w h l hl) ?_
  cases okChart w h l with
  | false => simp only [Bool.false_eq_true, if_false, Bool.false_and]; exact Ev.now _
  | true =>
    simp only [if_true, Bool.true_and]
    refine Ev.bind (l2Good_ev w2 h2 l2 hl2) ?_
    cases okChart w2 h2 l2 with
    | false => simp only [Bool.false_eq_true, if_false, Bool.false_and]; exact Ev.now _
    | true =>
      simp only [if_true, Bool.true_and, l1In_eq, Option.bind_some]
      cases rng dr (-2) 2 <;> exact Ev.now _
theorem isShift_eq (d a : Int) : impl_isShift.f d a = some (rng d (-2) 2 && rng a (-2) 2) := by
  unfold impl_isShift.f
  simp only [in_eq, Option.bind_some]
  cases rng d (-2) 2 <;> rfl
def shV (w h : Int) (l : List Int) (d a c r k : Int) : Int := if (rng (r + d) 0 (h - 1) && rng (k + a) 0 (w - 1)) = true then rd l ((r + d) * w + (k + a)) else c
theorem ofShift_eq (w h : Int) (l : List Int) (d a c : Int) (hk : okChart w h l = true) (hd : -2 ≤ d ∧ d ≤ 2) (ha : -2 ≤ a ∧ a ≤ 2) (r k : Int) (hr : 0 ≤ r ∧ r ≤ 8) (hkk : 0 ≤ k ∧ k ≤ 8) : ofShift w h l d a c r k = some (shV w h l d a c r k) := by
  unfold ofShift shV
  rw [wrap_id (r + d) (by omega) (by omega), wrap_id (k + a) (by omega) (by omega), hasPlace_eq w h l hk, Option.bind_some]
  by_cases hb : (rng (r + d) 0 (h - 1) && rng (k + a) 0 (w - 1)) = true
  · rw [if_pos hb, if_pos hb]
    rw [Bool.and_eq_true, rng_iff, rng_iff] at hb
    exact implAt_eq w h l hk _ _ hb.1 hb.2
  · rw [if_neg hb, if_neg hb]
theorem sh_cell (w h : Int) (l : List Int) (d a c : Int) (hk : okChart w h l = true) (hd : -2 ≤ d ∧ d ≤ 2) (ha : -2 ≤ a ∧ a ≤ 2) (r k : Int) (hr : 0 ≤ r ∧ r ≤ 8) (hkk : 0 ≤ k ∧ k < w) (xs : List Int) (hx : xs.length ≤ 1000) (res : Int × Int × List Int × Bool)
    (hn : Ev (fun q => spec_ShiftPhoto.l1 q d a c r (k + 1) w h l w h (xs ++ [shV w h l d a c r k])) res) : Ev (fun q => spec_ShiftPhoto.l1 q d a c r k w h l w h xs) res := by
  obtain ⟨_, hw, hh, hlen, h64⟩ := okChart_iff w h l hk
  have W := within_ev w h l hk (r + d) (k + a)
  refine Ev.step (fun q => by rw [spec_ShiftPhoto.l1, if_pos hkk.2, wrap_id (r + d) (by omega) (by omega), wrap_id (k + a) (by omega) (by omega)]) (Ev.bind W ?_)
  unfold shV at hn
  by_cases hb : (rng (r + d) 0 (h - 1) && rng (k + a) 0 (w - 1)) = true
  · simp only [if_pos hb] at hn ⊢
    rw [Bool.and_eq_true, rng_iff, rng_iff] at hb
    simp only [specAt_eq w h l hk _ _ hb.1 hb.2, Option.bind_some, if_pos (show xs.length < 17592186044416 by omega), wrap_id (k + 1) (show -9223372036854775808 ≤ k + 1 by omega) (show k + 1 ≤ 9223372036854775807 by omega)]
    exact hn
  · simp only [if_neg hb] at hn ⊢
    simp only [if_pos (show xs.length < 17592186044416 by omega), wrap_id (k + 1) (show -9223372036854775808 ≤ k + 1 by omega) (show k + 1 ≤ 9223372036854775807 by omega)]
    exact hn
theorem mk_cell (of : Int → Int → Option Int) (w h r k v : Int) (hv : of r k = some v) (hk : 0 ≤ k ∧ k < w) (hw : w ≤ 8) (xs : List Int) (hx : xs.length ≤ 1000) (H : Int) (res : Int × Int × List Int) (r0 : Int)
    (hn : Ev (fun q => impl_makeChart.l1 of q w r H r0 w (k + 1) w h (xs ++ [v])) res) : Ev (fun q => impl_makeChart.l1 of q w r H r0 w k w h xs) res := by
  exact Ev.step (fun q => by rw [impl_makeChart.l1, if_pos hk.2, hv, Option.bind_some, if_pos (by omega), wrap_id (k + 1) (by omega) (by omega)]) hn
theorem sh_row (w h : Int) (l : List Int) (d a c : Int) (hk : okChart w h l = true) (hd : -2 ≤ d ∧ d ≤ 2) (ha : -2 ≤ a ∧ a ≤ 2) (r : Int) (hr : 0 ≤ r ∧ r ≤ 8) (n : Nat) : ∀ (j : Nat) (xs : List Int), (j : Int) + (n : Int) = w → xs.length + n ≤ 800 → j ≤ 8 →
    ∃ ys : List Int, ys.length = xs.length + n ∧ (∀ res, Ev (fun q => spec_ShiftPhoto.l0 q d a c (r + 1) w h l w h ys) res → Ev (fun q => spec_ShiftPhoto.l1 q d a c r (j : Int) w h l w h xs) res) ∧
      (∀ res, Ev (fun q => impl_makeChart.l0 (ofShift w h l d a c) q w h (r + 1) w h ys) res → Ev (fun q => impl_makeChart.l1 (ofShift w h l d a c) q w r h r w (j : Int) w h xs) res) := by
  obtain ⟨_, hw, hh, hlen, h64⟩ := okChart_iff w h l hk
  induction n with
  | zero =>
    intro j xs hj hx h8
    exact ⟨xs, rfl, fun res h => Ev.step (fun q => by rw [spec_ShiftPhoto.l1, if_neg (by omega), wrap_id (r + 1) (by omega) (by omega)]) h, fun res h => Ev.step (fun q => by rw [impl_makeChart.l1, if_neg (by omega), wrap_id (r + 1) (by omega) (by omega)]) h⟩
  | succ n ih =>
    intro j xs hj hx h8
    obtain ⟨ys, h1, h2, h3⟩ := ih (j + 1) (xs ++ [shV w h l d a c r (j : Int)]) (by omega) (by rw [List.length_append, List.length_singleton]; omega) (by omega)
    have e1 : ((j + 1 : Nat) : Int) = (j : Int) + 1 := by omega
    rw [e1] at h2 h3
    rw [List.length_append, List.length_singleton] at h1
    have hjw : 0 ≤ (j : Int) ∧ (j : Int) < w := ⟨by omega, by omega⟩
    have hj8 : 0 ≤ (j : Int) ∧ (j : Int) ≤ 8 := ⟨by omega, by omega⟩
    exact ⟨ys, by omega, fun res hres => sh_cell w h l d a c hk hd ha r (j : Int) hr hjw xs (by omega) res (h2 res hres), fun res hres => mk_cell (ofShift w h l d a c) w h r (j : Int) _ (ofShift_eq w h l d a c hk hd ha r (j : Int) hr hj8) hjw hw.2 xs (by omega) h res r (h3 res hres)⟩
theorem sh_all (w h : Int) (l : List Int) (d a c : Int) (hk : okChart w h l = true) (hd : -2 ≤ d ∧ d ≤ 2) (ha : -2 ≤ a ∧ a ≤ 2) (n : Nat) : ∀ (i : Nat) (xs : List Int), (i : Int) + (n : Int) = h → xs.length ≤ 8 * i → i ≤ 8 →
    ∃ ys : List Int, ys.length ≤ 100 ∧ Ev (fun q => spec_ShiftPhoto.l0 q d a c (i : Int) w h l w h xs) (w, h, ys, true) ∧ Ev (fun q => impl_makeChart.l0 (ofShift w h l d a c) q w h (i : Int) w h xs) (w, h, ys) := by
  obtain ⟨_, hw, hh, hlen, h64⟩ := okChart_iff w h l hk
  induction n with
  | zero =>
    intro i xs hi hx h8
    exact ⟨xs, by omega, Ev.step (f := fun _ => some (w, h, xs, true)) (fun q => by rw [spec_ShiftPhoto.l0, if_neg (by omega)]) (Ev.now _), Ev.step (f := fun _ => some (w, h, xs)) (fun q => by rw [impl_makeChart.l0, if_neg (by omega)]) (Ev.now _)⟩
  | succ n ih =>
    intro i xs hi hx h8
    obtain ⟨ys, h1, h2, h3⟩ := sh_row w h l d a c hk hd ha (i : Int) ⟨by omega, by omega⟩ w.toNat 0 xs (by omega) (by omega) (by omega)
    obtain ⟨zs, g1, g2, g3⟩ := ih (i + 1) ys (by omega) (by omega) (by omega)
    have e1 : ((i + 1 : Nat) : Int) = (i : Int) + 1 := by omega
    rw [e1] at g2 g3
    exact ⟨zs, g1, Ev.step (fun q => by rw [spec_ShiftPhoto.l0, if_pos (by omega)]; rfl) (h2 _ g2), Ev.step (fun q => by rw [impl_makeChart.l0, if_pos (by omega)]; rfl) (h3 _ g3)⟩
theorem ShiftPhoto_same (w h : Int) (l : List Int) (d a c : Int) (hl : l.length ≤ 2000000) : ∃ r : Int × Int × List Int × Bool, r.2.2.1.length ≤ 100 ∧ Ev (fun k => spec_ShiftPhoto.f k w h l d a c) r ∧ Ev (fun k => impl_ShiftPhoto.f k w h l d a c) r := by
  unfold spec_ShiftPhoto.f impl_ShiftPhoto.f
  have no1 : Ev (fun k => spec_ShiftPhoto.j0 k d a c true w h l) (0, 0, [], false) := Ev.step (fun k => by rw [spec_ShiftPhoto.j0, if_pos rfl]) (Ev.now _)
  have e1 : spec_l2Color.f c = some (rng c 0 5) := by unfold spec_l2Color.f; rw [l1In_eq]; rfl
  have e2 : impl_isColor.f c = some (rng c 0 5) := by unfold impl_isColor.f; rw [in_eq]; rfl
  have S := specShift_ev w h l w h l d a hl hl
  simp only [IsChart_eq, isShift_eq, e2, Option.bind_some]
  cases hk : okChart w h l with
  | false =>
    have ep : okPhotos w h l w h l d a = false := by unfold okPhotos; rw [hk]; rfl
    refine ⟨(0, 0, [], false), by simp, Ev.bind S ?_, ?_⟩
    · simp only [ep, Bool.false_eq_true, if_false]; exact no1
    · simp only [Bool.false_eq_true, if_false]; exact Ev.now _
  | true =>
    cases hs : (rng d (-2) 2 && rng a (-2) 2) with
    | false =>
      have ep : okPhotos w h l w h l d a = false := by unfold okPhotos; rw [hk, hs]; rfl
      refine ⟨(0, 0, [], false), by simp, Ev.bind S ?_, ?_⟩
      · simp only [ep, Bool.false_eq_true, if_false]; exact no1
      · simp only [if_true, Bool.false_eq_true, if_false]; exact Ev.now _
    | true =>
      have ep : okPhotos w h l w h l d a = true := by unfold okPhotos; rw [hk, hs]; rfl
      cases hc : rng c 0 5 with
      | false =>
        refine ⟨(0, 0, [], false), by simp, Ev.bind S ?_, ?_⟩
        · simp only [ep, if_true, e1, hc, Option.bind_some, Bool.not_false]; exact no1
        · simp only [if_true, Bool.false_eq_true, if_false]; exact Ev.now _
      | true =>
        rw [Bool.and_eq_true, rng_iff, rng_iff] at hs
        obtain ⟨_, hw, hh, hlen, h64⟩ := okChart_iff w h l hk
        obtain ⟨ys, h1, h2, h3⟩ := sh_all w h l d a c hk hs.1 hs.2 h.toNat 0 [] (by omega) (by simp) (by omega)
        refine ⟨(w, h, ys, true), h1, Ev.bind S ?_, ?_⟩
        · simp only [ep, if_true, e1, hc, Option.bind_some, Bool.not_true]
          exact Ev.step (fun k => by rw [spec_ShiftPhoto.j0, if_neg (by decide)]; rfl) h2
        · simp only [if_true]
          have h4 : Ev (fun k => impl_makeChart.f (ofShift w h l d a c) k w h) (w, h, ys) := h3
          refine Ev.bind h4 ?_
          simp only [and_self, if_true]
          exact Ev.now _
theorem eqInts_ev (t : List Int) (ht : t.length ≤ 2000000) : Ev (fun k => laws_eqIntS.f k t t) true := by
  refine Ev.congr (f := fun k => laws_eqIntS.l0 k t t 0) (fun k => by unfold laws_eqIntS.f; rw [if_pos rfl]) ?_
  obtain ⟨r, hr, h⟩ := Ev.loopE (fun k i (_ : Unit) => laws_eqIntS.l0 k t t i) t.length (fun _ _ => True) (fun r => r = true)
    (fun s _ => ⟨true, rfl, Ev.step (fun k => by rw [laws_eqIntS.l0, if_neg (by omega)]) (Ev.now true)⟩)
    (fun i s hi _ => ⟨(), trivial, fun r h => Ev.step (fun k => by
      rw [laws_eqIntS.l0, if_pos (by omega), if_pos (by omega), if_pos (by omega), if_pos rfl, wrap_id _ (by omega) (by omega)]) h⟩) () trivial
  subst hr
  exact h
theorem eqChart_ev (w h : Int) (t : List Int) (hl : t.length ≤ 2000000) : Ev (fun k => laws_eqChart.f k w h t w h t) true := by
  unfold laws_eqChart.f
  simp only [if_true]
  exact Ev.bind (eqInts_ev t hl) (by simp only [if_true]; exact Ev.now _)
theorem held_ev (t : List Int) (ht : t.length ≤ 2000000) (h1 : ∀ j : Nat, j < t.length → t.getD j 0 = 1 + (j : Int)) : Ev (fun k => laws_heldIntS.f k t 1) (1 + (t.length : Int)) := by
  unfold laws_heldIntS.f
  obtain ⟨r, hr, h⟩ := Ev.loopE (fun k i (q : Int) => laws_heldIntS.l0 k t q i) t.length (fun i q => q = 1 + (i : Int)) (fun r => r = 1 + (t.length : Int))
    (fun s hs => ⟨s, hs, Ev.step (fun k => by rw [laws_heldIntS.l0, if_neg (by omega)]) (Ev.now s)⟩)
    (fun i s hi hs => ⟨s + 1, by omega, fun r h => Ev.step (fun k => by
      have hx : rd t (i : Int) = s := by rw [hs]; exact h1 i hi
      rw [laws_heldIntS.l0, if_pos (by omega), if_pos (by omega), if_pos hx, wrap_id _ (by omega) (by omega), wrap_id _ (by omega) (by omega)]) h⟩) 1 (by omega)
  subst hr
  exact h
theorem mark_ev (t : List Int) (ht : t.length ≤ 2000000) : ∃ t' : List Int, Ev (fun k => laws_markIntS.f k t 1) (1 + (t.length : Int), t') ∧ Ev (fun k => laws_heldIntS.f k t' 1) (1 + (t.length : Int)) := by
  unfold laws_markIntS.f
  obtain ⟨⟨m, t'⟩, ⟨hm, hl, hj⟩, h⟩ := Ev.loopE (fun k i (q : Int × List Int) => laws_markIntS.l0 k q.2 q.1 i) t.length
    (fun i q => q.1 = 1 + (i : Int) ∧ q.2.length = t.length ∧ ∀ j : Nat, j < i → q.2.getD j 0 = 1 + (j : Int)) (fun r => r.1 = 1 + (t.length : Int) ∧ r.2.length = t.length ∧ ∀ j : Nat, j < t.length → r.2.getD j 0 = 1 + (j : Int))
    (fun s hs => ⟨s, hs, Ev.step (fun k => by rw [laws_markIntS.l0, if_neg (by omega)]) (Ev.now s)⟩)
    (fun i s hi hs => ⟨(s.1 + 1, s.2.set i s.1), ⟨by have := hs.1; simp only; omega, by simp [hs.2.1], fun j hj => by
        have h2 := hs.2.1
        simp only [getD_set]
        by_cases e : i = j
        · subst e; rw [if_pos ⟨rfl, by omega⟩]; exact hs.1
        · rw [if_neg (fun h => e h.1)]; exact hs.2.2 j (by omega)⟩, fun r h => Ev.step (fun k => by
      have h1 := hs.1
      have h2 := hs.2.1
      rw [laws_markIntS.l0, if_pos (by omega), if_pos (by omega), wrap_id _ (by omega) (by omega), wrap_id _ (by omega) (by omega), Int.toNat_natCast]) h⟩) (1, t) ⟨by simp, rfl, fun j hj => absurd hj (by omega)⟩
  simp only at hm hl hj
  subst hm
  refine ⟨t', h, ?_⟩
  have := held_ev t' (by omega) (fun j hjj => hj j (by omega))
  rw [hl] at this
  exact this
theorem markChart_ev (w h : Int) (t : List Int) (hl : t.length ≤ 2000000) : ∃ (m : Int) (t' : List Int), 0 ≤ m ∧ Ev (fun k => laws_markChart.f k w h t 1) (m, t') := by
  obtain ⟨t', h1, _⟩ := mark_ev t hl
  exact ⟨1 + (t.length : Int), t', by omega, by unfold laws_markChart.f; exact Ev.bind h1 (Ev.now _)⟩
theorem FnExactShiftPhoto (a0_0 : Int) (a0_1 : Int) (l0_2 : List (Int)) (a1 : Int) (a2 : Int) (a3 : Int) (q_a0_0 : (Lit.int .i64 a0_0).wf = true) (q_a0_1 : (Lit.int .i64 a0_1).wf = true) (q_l0_2 : (l0_2.length ≤ maxLen ∧ ∀ q ∈ l0_2, (Lit.int .i64 q).wf = true)) (q_a1 : (Lit.int .i64 a1).wf = true) (q_a2 : (Lit.int .i64 a2).wf = true) (q_a3 : (Lit.int .i64 a3).wf = true) : ∃ k, laws_FnExactShiftPhoto.f k a0_0 a0_1 l0_2 a1 a2 a3 = some true := by
  by_cases hl : (l0_2.length : Int) ≤ 1048576
  · obtain ⟨t, ht, K1, h1⟩ := toChart_ev a0_0 a0_1 l0_2 (by omega)
    obtain ⟨r, hr, ⟨K2, h2⟩, K3, h3⟩ := ShiftPhoto_same a0_0 a0_1 t a1 a2 a3 (by omega)
    obtain ⟨K4, h4⟩ := eqChart_ev a0_0 a0_1 t (by omega)
    obtain ⟨m, t', hm, K5, h5⟩ := markChart_ev a0_0 a0_1 t (by omega)
    obtain ⟨K6, h6⟩ := eqChart_ev r.1 r.2.1 r.2.2.1 (by omega)
    obtain ⟨g', hg1, hg2⟩ := mark_ev r.2.2.1 (by omega)
    obtain ⟨K7, h7⟩ : Ev (fun k => laws_markChart.f k r.1 r.2.1 r.2.2.1 1) (1 + (r.2.2.1.length : Int), g') := by unfold laws_markChart.f; exact Ev.bind hg1 (Ev.now _)
    have n2 : ¬ 1 + (r.2.2.1.length : Int) < 0 := by omega
    obtain ⟨K8, h8⟩ : Ev (fun k => laws_heldChart.f k r.1 r.2.1 g' 1) (1 + (r.2.2.1.length : Int)) := by unfold laws_heldChart.f; exact Ev.bind hg2 (by simp only [if_neg n2]; exact Ev.now _)
    obtain ⟨N, hN⟩ : ∃ N, N = K1 + K2 + K3 + K4 + K5 + K6 + K7 + K8 := ⟨_, rfl⟩
    replace h1 := fun j => h1 (N + j) (by omega)
    replace h2 := fun j => h2 (N + j) (by omega)
    replace h3 := fun j => h3 (N + j) (by omega)
    replace h4 := fun j => h4 (N + j) (by omega)
    replace h5 := fun j => h5 (N + j) (by omega)
    replace h6 := fun j => h6 (N + j) (by omega)
    replace h7 := fun j => h7 (N + j) (by omega)
    replace h8 := fun j => h8 (N + j) (by omega)
    dsimp only at h1 h2 h3 h4 h5 h6 h7 h8
    refine ⟨N + 4, ?_⟩
    have n1 : ¬ m < 0 := by omega
    unfold laws_FnExactShiftPhoto.f
    rw [szChart2 a0_0 a0_1 l0_2 hl, Option.bind_some, if_neg (by omega)]
    simp only [h1, h2, h3, h4, h5, h6, h7, h8, n1, n2, laws_FnExactShiftPhoto.j0, laws_FnExactShiftPhoto.j1, laws_FnExactShiftPhoto.j2, Option.bind_some, if_true, if_false, bne_self_eq_false, Bool.false_eq_true]
  · refine ⟨0, ?_⟩
    unfold laws_FnExactShiftPhoto.f
    rw [szChart1 a0_0 a0_1 l0_2 hl q_l0_2.1]
    rfl
end Go.Proofs.Ytcjalfgnnabghaa.Pure
