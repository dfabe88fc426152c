/- The plain law of FnExactIsAssignment: what the program's functions compute is what the reference's compute. No program and no memory in it. -/
import Derived.Test.YtaadbpibmlnncaaHx17
import Derived.Test.YtaadbpibmlnncaaLps
namespace Go.Proofs.Ytaadbpibmlnncaa.Pure
open Go.RowKit Go.Proofs.YtaadbpibmlnncaaW.PrintWords Go.Proofs.YtaadbpibmlnncaaW.PrintLast Go.Proofs.Ytaadbpibmlnncaa.H
set_option linter.unusedVariables false
set_option linter.unusedSimpArgs false
theorem Ev.foldK {σ ρ : Type} (g : Nat → Int → σ → Option ρ) (n : Nat) (f : Nat → σ → σ) (Inv : Nat → σ → Prop) (r : ρ)
    (hstep : ∀ (i : Nat) s, i < n → Inv i s → Inv (i + 1) (f i s) ∧ (Ev (fun k => g k ((i : Int) + 1) (f i s)) r → Ev (fun k => g k (i : Int) s) r))
    (s : σ) (h0 : Inv 0 s) (hend : Ev (fun k => g k (n : Int) (loopN f n s)) r) : Ev (fun k => g k 0 s) r := by
  have key : ∀ i, i ≤ n → Inv i (loopN f i s) ∧ (Ev (fun k => g k (i : Int) (loopN f i s)) r → Ev (fun k => g k 0 s) r) := by
    intro i
    induction i with
    | zero => exact fun _ => ⟨h0, fun h => h⟩
    | succ i ih =>
      intro hi
      obtain ⟨h1, h2⟩ := ih (by omega)
      obtain ⟨h3, h4⟩ := hstep i _ (by omega) h1
      refine ⟨h3, fun h => h2 (h4 ?_)⟩
      have e : ((i + 1 : Nat) : Int) = (i : Int) + 1 := by omega
      rw [e] at h
      exact h
  exact (key n (Nat.le_refl _)).2 hend
theorem loopN_inv {σ : Type} (f : Nat → σ → σ) (Inv : Nat → σ → Prop) (n : Nat) (hstep : ∀ i s, i < n → Inv i s → Inv (i + 1) (f i s)) (s : σ) (h0 : Inv 0 s) : Inv n (loopN f n s) := by
  have key : ∀ i, i ≤ n → Inv i (loopN f i s) := by
    intro i
    induction i with
    | zero => exact fun _ => h0
    | succ i ih => exact fun hi => hstep i _ (by omega) (ih (by omega))
  exact key n (Nat.le_refl _)
theorem l1In_eq (a b c : Int) : spec_l1In.f a b c = some (rng a b c) := spec_l1In.eq a b c
theorem in_eq (a b c : Int) : impl_in.f a b c = some (rng a b c) := impl_in.eq a b c
theorem ext_getD {α : Type} (z : α) (a b : List α) (hl : a.length = b.length) (h : ∀ j, j < a.length → a.getD j z = b.getD j z) : a = b := by
  apply List.ext_getElem hl
  intro j h1 h2
  have := h j h1
  rwa [List.getD_eq_getElem?_getD, List.getD_eq_getElem?_getD, List.getElem?_eq_getElem h1, List.getElem?_eq_getElem h2] at this
theorem take_succ_getD {α : Type} (z : α) (a : List α) (i : Nat) (h : i < a.length) : a.take (i + 1) = a.take i ++ [a.getD i z] := by
  rw [List.take_succ_eq_append_getElem h, List.getD_eq_getElem?_getD, List.getElem?_eq_getElem h]
  rfl
theorem getD_map' {α β : Type} (f : α → β) (z : α) (y : β) (a : List α) (i : Nat) (h : i < a.length) : (a.map f).getD i y = f (a.getD i z) := by
  rw [List.getD_eq_getElem?_getD, List.getElem?_map, List.getD_eq_getElem?_getD, List.getElem?_eq_getElem h]
  rfl
theorem set_mid {α : Type} (f : α → α) (z : α) (a : List α) (i : Nat) (h : i < a.length) : ((a.take i).map f ++ a.drop i).set i (f (a.getD i z)) = (a.take (i + 1)).map f ++ a.drop (i + 1) := by
  have e : a.drop i = a.getD i z :: a.drop (i + 1) := by
    rw [List.drop_eq_getElem_cons h, List.getD_eq_getElem?_getD, List.getElem?_eq_getElem h]
    rfl
  rw [e, take_succ_getD z a i h, List.map_append, List.append_assoc]
  have hl : ((a.take i).map f).length = i := by rw [List.length_map, List.length_take]; omega
  rw [List.set_append_right _ _ (by omega), hl, Nat.sub_self]
  rfl
theorem mid_getD {α : Type} (f : α → α) (z : α) (a : List α) (i : Nat) (h : i < a.length) : ((a.take i).map f ++ a.drop i).getD i z = a.getD i z := by
  have hl : ((a.take i).map f).length = i := by rw [List.length_map, List.length_take]; omega
  rw [List.getD_eq_getElem?_getD, List.getElem?_append_right (by omega), hl, Nat.sub_self, List.getElem?_drop, Nat.add_zero, List.getD_eq_getElem?_getD]
theorem mid_length {α : Type} (f : α → α) (a : List α) (i : Nat) : ((a.take i).map f ++ a.drop i).length = a.length := by
  rw [List.length_append, List.length_map, List.length_take, List.length_drop]; omega
def okChart (w h : Int) (l : List Int) : Bool := (l.all fun x => rng x 0 5) && (rng w 1 8 && (rng h 1 8 && ((l.length : Int) == wrap64 (w * h))))
theorem okChart_iff (w h : Int) (l : List Int) (hk : okChart w h l = true) : (∀ i, i < l.length → 0 ≤ l.getD i 0 ∧ l.getD i 0 ≤ 5) ∧ (1 ≤ w ∧ w ≤ 8) ∧ (1 ≤ h ∧ h ≤ 8) ∧ (l.length : Int) = w * h ∧ l.length ≤ 64 := by
  unfold okChart at hk
  simp only [Bool.and_eq_true, rng_iff, beq_iff_eq] at hk
  obtain ⟨h1, h2, h3, h4⟩ := hk
  have p0 : 0 ≤ w * h := Int.mul_nonneg (by omega) (by omega)
  have p1 : w * h ≤ 8 * 8 := Int.mul_le_mul h2.2 h3.2 (by omega) (by omega)
  rw [wrap_id _ (by omega) (by omega)] at h4
  refine ⟨fun i hi => ?_, h2, h3, h4, by omega⟩
  have := (all_getD 0 l _).1 h1 i hi
  exact (rng_iff _ _ _).1 this
theorem l2Good_ev (w h : Int) (l : List Int) (hl : l.length ≤ 2000000) : Ev (fun k => spec_l2Good.f k w h l) (okChart w h l) := by
  unfold spec_l2Good.f
  have e : okChart w h l = ((List.range l.length).all (fun i => rng (l.getD i 0) 0 5) && (rng w 1 8 && (rng h 1 8 && ((l.length : Int) == wrap64 (w * h))))) := by
    unfold okChart
    congr 1
    rw [Bool.eq_iff_iff, all_getD 0, all_range]
  rw [e]
  refine Ev.scan (fun k i => spec_l2Good.l0 k i w h l) l.length _ _ (Ev.step (f := fun _ => some _) (fun k => ?_) (Ev.now _)) ?_ ?_
  · rw [spec_l2Good.l0, if_neg (by omega)]
    unfold spec_l2Side.f
    simp only [l1In_eq, Option.bind_some]
    cases rng w 1 8 <;> cases rng h 1 8 <;> rfl
  · intro i hi hg
    refine Ev.step (f := fun _ => some false) (fun k => ?_) (Ev.now _)
    rw [spec_l2Good.l0, if_pos (by omega), if_pos (by omega)]
    unfold spec_l2Color.f
    have e0 : rd l (i : Int) = l.getD i 0 := rfl
    rw [l1In_eq, e0, hg]
    rfl
  · intro i r hi hg hr
    refine Ev.step (fun k => ?_) hr
    rw [spec_l2Good.l0, if_pos (by omega), if_pos (by omega)]
    unfold spec_l2Color.f
    have e0 : rd l (i : Int) = l.getD i 0 := rfl
    rw [l1In_eq, e0, hg, wrap_id _ (by omega) (by omega)]
    rfl
theorem IsChart_eq (w h : Int) (l : List Int) : impl_IsChart.f w h l = some (okChart w h l) := by
  unfold impl_IsChart.f impl_isSide.f areAll_impl_isColor.f okChart
  simp only [in_eq, Option.bind_some]
  by_cases e : (l.length : Int) = wrap64 (w * h)
  · rw [if_pos e, beq_iff_eq.2 e]
    cases rng w 1 8 <;> cases rng h 1 8 <;> simp
  · rw [if_neg e, beq_eq_false_iff_ne.2 e]
    cases rng w 1 8 <;> cases rng h 1 8 <;> simp
theorem szChart1 (w h : Int) (l : List Int) (hk : ¬ (l.length : Int) ≤ 1048576) (hm : l.length ≤ maxLen) : laws_szChart.f w h l 1048576 = some (-1) := by
  have hm' : l.length ≤ 9223372036854775807 := hm
  unfold laws_szChart.f laws_szIntS.f
  rw [wrap_id _ (by omega) (by omega), if_pos (by omega)]
  rfl
theorem szChart2 (w h : Int) (l : List Int) (hk : (l.length : Int) ≤ 1048576) : laws_szChart.f w h l 1048576 = some (1048576 - (l.length : Int)) := by
  unfold laws_szChart.f laws_szIntS.f
  rw [wrap_id _ (by omega) (by omega), if_neg (by omega), Option.bind_some, if_neg (by omega)]
theorem toInts_ev (l : List Int) (hl : l.length ≤ 2000000) : ∃ t : List Int, t.length = l.length ∧ Ev (fun k => laws_toIntS.f k l) t := by
  obtain ⟨r, hr, h⟩ := Ev.loopE (fun k i (s : List Int) => laws_toIntS.l0 k l s i) l.length (fun _ s => s.length = l.length) (fun r => r.length = l.length)
    (fun s hs => ⟨s, hs, Ev.step (fun k => by rw [laws_toIntS.l0, if_neg (by omega)]) (Ev.now s)⟩)
    (fun i s hi hs => ⟨s.set i (rd l i), by simp [hs], fun r h => Ev.step (fun k => by
      rw [laws_toIntS.l0, if_pos (by omega), if_pos (by omega), if_pos (by omega), wrap_id _ (by omega) (by omega), Int.toNat_natCast]) h⟩) (List.replicate l.length 0) (by simp)
  refine ⟨r, hr, Ev.congr (fun k => ?_) h⟩
  unfold laws_toIntS.f
  rw [if_pos (by omega), if_pos (by omega), Int.toNat_natCast]
theorem toChart_ev (w h : Int) (l : List Int) (hl : l.length ≤ 2000000) : ∃ t : List Int, t.length = l.length ∧ Ev (fun k => laws_toChart.f k w h l) (w, h, t) := by
  obtain ⟨t, ht, hv⟩ := toInts_ev l hl
  exact ⟨t, ht, by unfold laws_toChart.f; exact Ev.bind hv (Ev.now _)⟩
def nb (w h r c : Int) : List Int := (if r > 0 then [r * w + c - w] else []) ++ ((if c > 0 then [r * w + c - 1] else []) ++ ((if c < w - 1 then [r * w + c + 1] else []) ++ (if r < h - 1 then [r * w + c + w] else [])))
theorem nb_length (w h r c : Int) : (nb w h r c).length ≤ 4 := by
  unfold nb
  split <;> split <;> split <;> split <;> simp
theorem place_split (w h p : Int) (hw : 1 ≤ w ∧ w ≤ 8) (hh : 1 ≤ h ∧ h ≤ 8) (h0 : 0 ≤ p) (h1 : p < w * h) : Int.tdiv p w = p / w ∧ Int.tmod p w = p % w ∧ p = p / w * w + p % w ∧ 0 ≤ p / w ∧ p / w < h ∧ 0 ≤ p % w ∧ p % w < w ∧ p / w * w ≤ 64 := by
  have a := Int.tdiv_eq_ediv_of_nonneg (b := w) h0
  have b := Int.tmod_eq_emod_of_nonneg (b := w) h0
  have c := Int.mul_ediv_add_emod p w
  have d := Int.emod_nonneg p (show w ≠ 0 by omega)
  have e := Int.emod_lt_of_pos p (show 0 < w by omega)
  have f : 0 ≤ p / w := Int.ediv_nonneg h0 (by omega)
  have g : p / w < h := Int.ediv_lt_of_lt_mul (by omega) (by rw [Int.mul_comm]; exact h1)
  have k : p / w * w ≤ 7 * 8 := Int.mul_le_mul (by omega) hw.2 (by omega) (by omega)
  rw [Int.mul_comm] at c
  omega
theorem nb_bd (w h r c : Int) (hw : 1 ≤ w ∧ w ≤ 8) (hh : 1 ≤ h ∧ h ≤ 8) (hr : 0 ≤ r ∧ r < h) (hc : 0 ≤ c ∧ c < w) : ∀ q ∈ nb w h r c, 0 ≤ q ∧ q < w * h := by
  intro q hq
  have m1 : 0 ≤ r * w := Int.mul_nonneg hr.1 (by omega)
  have m2 : r * w ≤ (h - 1) * w := Int.mul_le_mul_of_nonneg_right (by omega) (by omega)
  have m3 : (h - 1) * w + w = w * h := by rw [Int.sub_mul, Int.one_mul, Int.mul_comm]; omega
  unfold nb at hq
  rw [List.mem_append, List.mem_append, List.mem_append] at hq
  rcases hq with hq | hq | hq | hq
  · split at hq
    · rw [List.mem_singleton.1 hq]
      have : 1 * w ≤ r * w := Int.mul_le_mul_of_nonneg_right (by omega) (by omega)
      omega
    · cases hq
  · split at hq
    · rw [List.mem_singleton.1 hq]; omega
    · cases hq
  · split at hq
    · rw [List.mem_singleton.1 hq]; omega
    · cases hq
  · split at hq
    · rw [List.mem_singleton.1 hq]
      have : r * w ≤ (h - 2) * w := Int.mul_le_mul_of_nonneg_right (by omega) (by omega)
      have e : (h - 2) * w = (h - 1) * w - w := by rw [Int.sub_mul, Int.sub_mul, Int.one_mul]; omega
      omega
    · cases hq
theorem hasPlace_eq (w h : Int) (l : List Int) (hk : okChart w h l = true) (r c : Int) : impl_Chart_hasPlace.f w h l r c = some (rng r 0 (h - 1) && rng c 0 (w - 1)) := by
  obtain ⟨_, hw, hh, hlen, h64⟩ := okChart_iff w h l hk
  unfold impl_Chart_hasPlace.f
  simp only [in_eq, Option.bind_some]
  rw [wrap_id (h - 1) (by omega) (by omega), wrap_id (w - 1) (by omega) (by omega)]
  cases rng r 0 (h - 1) <;> rfl
theorem Next_ev (w h : Int) (l : List Int) (p : Int) (hw : 1 ≤ w ∧ w ≤ 8) (hh : 1 ≤ h ∧ h ≤ 8) (h0 : 0 ≤ p) (h1 : p < w * h) (h64 : w * h ≤ 64) : Ev (fun k => spec_l12Next.f k w h l p) (nb w h (p / w) (p % w)) := by
  obtain ⟨a, b, c, d, e, f, g, i⟩ := place_split w h p hw hh h0 h1
  refine ⟨2, fun k hk => ?_⟩
  obtain ⟨k, rfl⟩ : ∃ m, k = m + 2 := ⟨k - 2, by omega⟩
  dsimp only
  unfold spec_l12Next.f
  rw [if_neg (by omega), a, b]
  obtain ⟨r, hr⟩ : ∃ r, r = p / w := ⟨_, rfl⟩
  obtain ⟨q, hq⟩ : ∃ q, q = p % w := ⟨_, rfl⟩
  rw [← hr] at c d e i ⊢
  rw [← hq] at c f g ⊢
  rw [wrap_id r (by omega) (by omega)]
  simp only [Option.bind_some, spec_l12Next.j0, spec_l12Next.j1]
  rw [wrap_id (w - 1) (by omega) (by omega), wrap_id (h - 1) (by omega) (by omega), wrap_id (p - w) (by omega) (by omega), wrap_id (p - 1) (by omega) (by omega), wrap_id (p + 1) (by omega) (by omega), wrap_id (p + w) (by omega) (by omega)]
  unfold nb
  rw [← c]
  by_cases q1 : r > 0 <;> by_cases q2 : q > 0 <;> by_cases q3 : q < w - 1 <;> by_cases q4 : r < h - 1 <;> simp [q1, q2, q3, q4]
abbrev DD : List S82 := [⟨-1, 0⟩, ⟨0, -1⟩, ⟨0, 1⟩, ⟨1, 0⟩]
theorem besides_step (w h : Int) (l : List Int) (hk : okChart w h l = true) (p r c : Int) (s : List Int) (hs : s.length ≤ 10) (j : Nat) (hj : j < 4) (dr dc : Int) (e1 : (rd_T82 DD (j : Int)).f0 = dr) (e2 : (rd_T82 DD (j : Int)).f1 = dc) (b1 : -1 ≤ dr ∧ dr ≤ 1) (b2 : -1 ≤ dc ∧ dc ≤ 1) (hp : 0 ≤ p ∧ p ≤ 64) (hr : 0 ≤ r ∧ r ≤ 8) (hc : 0 ≤ c ∧ c ≤ 8) (v : List Int)
    (h1 : Ev (fun k => impl_Chart_besides.l0 k p (if (rng (r + dr) 0 (h - 1) && rng (c + dc) 0 (w - 1)) = true then s ++ [p + dr * w + dc] else s) r c DD 4 ((j : Int) + 1) w h l) v) : Ev (fun k => impl_Chart_besides.l0 k p s r c DD 4 (j : Int) w h l) v := by
  obtain ⟨_, hw, hh, hlen, h64⟩ := okChart_iff w h l hk
  have hd : -8 ≤ dr * w ∧ dr * w ≤ 8 := by
    rcases (by omega : dr = -1 ∨ dr = 0 ∨ dr = 1) with rfl | rfl | rfl <;> omega
  refine Ev.step (fun k => ?_) h1
  have el : (DD.length : Int) = 4 := rfl
  rw [impl_Chart_besides.l0, if_pos (by omega), if_pos (by omega), if_pos (by omega), e1, e2, wrap_id (r + dr) (by omega) (by omega), wrap_id (c + dc) (by omega) (by omega), hasPlace_eq w h l hk, Option.bind_some, wrap_id (dr * w) (by omega) (by omega), wrap_id (p + dr * w) (by omega) (by omega), wrap_id (p + dr * w + dc) (by omega) (by omega), wrap_id ((j : Int) + 1) (by omega) (by omega)]
  split
  · rw [if_pos (by omega)]
  · rfl
theorem besides_ev (w h : Int) (l : List Int) (hk : okChart w h l = true) (p : Int) (h0 : 0 ≤ p) (h1 : p < w * h) : Ev (fun k => impl_Chart_besides.f k w h l p) (nb w h (p / w) (p % w)) := by
  obtain ⟨_, hw, hh, hlen, h64⟩ := okChart_iff w h l hk
  obtain ⟨a, b, c, d, e, f, g, i⟩ := place_split w h p hw hh h0 h1
  unfold impl_Chart_besides.f
  simp only [if_neg (show ¬ w = 0 by omega), a, b, Option.bind_some]
  obtain ⟨r, hr⟩ : ∃ r, r = p / w := ⟨_, rfl⟩
  obtain ⟨q, hq⟩ : ∃ q, q = p % w := ⟨_, rfl⟩
  rw [← hr] at c d e i
  rw [← hq] at c f g
  rw [← hr, ← hq]
  rw [wrap_id r (by omega) (by omega)]
  have c1 : (rng (r + -1) 0 (h - 1) && rng (q + 0) 0 (w - 1)) = decide (r > 0) := by
    rw [Bool.eq_iff_iff, Bool.and_eq_true, rng_iff, rng_iff, decide_eq_true_iff]; omega
  have c2 : (rng (r + 0) 0 (h - 1) && rng (q + -1) 0 (w - 1)) = decide (q > 0) := by
    rw [Bool.eq_iff_iff, Bool.and_eq_true, rng_iff, rng_iff, decide_eq_true_iff]; omega
  have c3 : (rng (r + 0) 0 (h - 1) && rng (q + 1) 0 (w - 1)) = decide (q < w - 1) := by
    rw [Bool.eq_iff_iff, Bool.and_eq_true, rng_iff, rng_iff, decide_eq_true_iff]; omega
  have c4 : (rng (r + 1) 0 (h - 1) && rng (q + 0) 0 (w - 1)) = decide (r < h - 1) := by
    rw [Bool.eq_iff_iff, Bool.and_eq_true, rng_iff, rng_iff, decide_eq_true_iff]; omega
  refine besides_step w h l hk p r q [] (by simp) 0 (by omega) (-1) 0 rfl rfl (by omega) (by omega) (by omega) (by omega) (by omega) _ ?_
  refine besides_step w h l hk p r q _ (by split <;> simp) 1 (by omega) 0 (-1) rfl rfl (by omega) (by omega) (by omega) (by omega) (by omega) _ ?_
  refine besides_step w h l hk p r q _ (by split <;> split <;> simp) 2 (by omega) 0 1 rfl rfl (by omega) (by omega) (by omega) (by omega) (by omega) _ ?_
  refine besides_step w h l hk p r q _ (by split <;> split <;> split <;> simp) 3 (by omega) 1 0 rfl rfl (by omega) (by omega) (by omega) (by omega) (by omega) _ ?_
  rw [c1, c2, c3, c4]
  simp only [decide_eq_true_iff]
  refine Ev.step (f := fun _ => some _) (fun k => ?_) (Ev.now _)
  rw [impl_Chart_besides.l0, if_neg (by omega)]
  unfold nb
  rw [← c]
  have m1 : p + -1 * w + 0 = p - w := by omega
  have m2 : p + 0 * w + -1 = p - 1 := by omega
  have m3 : p + 0 * w + 1 = p + 1 := by omega
  have m4 : p + 1 * w + 0 = p + w := by omega
  rw [m1, m2, m3, m4]
  by_cases q1 : r > 0 <;> by_cases q2 : q > 0 <;> by_cases q3 : q < w - 1 <;> by_cases q4 : r < h - 1 <;> simp [q1, q2, q3, q4]
def negs (o : List Int) : Nat := o.countP fun v => decide (v < 0)
def stA (l : List Int) (i n q : Int) (s : List Int × List Int) : List Int × List Int := if rd s.1 q < 0 then (if rd l q = rd l i then (s.1.set q.toNat n, s.2 ++ [q]) else s) else s
def okA (L i : Nat) (n : Int) (s : List Int × List Int) : Prop :=
  s.1.length = L ∧ (∀ j : Nat, -1 ≤ s.1.getD j 0 ∧ s.1.getD j 0 ≤ n) ∧ (∀ j : Nat, j ≤ i → 0 ≤ s.1.getD j 0) ∧ s.2.length + negs s.1 ≤ 64 ∧ ∀ q ∈ s.2, 0 ≤ q ∧ q < (L : Int)
theorem negs_set (o : List Int) (q : Nat) (n : Int) (hq : q < o.length) (h : o.getD q 0 < 0) (hn : 0 ≤ n) : negs (o.set q n) + 1 = negs o := by
  have e : o.getD q 0 = o[q] := by rw [List.getD_eq_getElem?_getD, List.getElem?_eq_getElem hq]; rfl
  rw [e] at h
  have hp : 0 < negs o := List.countP_pos_iff.2 ⟨o[q], List.getElem_mem hq, by simpa using h⟩
  unfold negs at hp ⊢
  rw [List.countP_set hq, if_pos (by simpa using h), if_neg (by simp; omega)]
  omega
theorem okA_step (L i : Nat) (l : List Int) (n q : Int) (hn : 0 ≤ n) (h0 : 0 ≤ q) (h1 : q < (L : Int)) (s : List Int × List Int) (hs : okA L i n s) : okA L i n (stA l i n q s) := by
  unfold stA
  by_cases c : rd s.1 q < 0
  · rw [if_pos c]
    by_cases c2 : rd l q = rd l i
    · rw [if_pos c2]
      obtain ⟨a, b, d, e, f⟩ := hs
      have c' : s.1.getD q.toNat 0 < 0 := c
      have hz := negs_set s.1 q.toNat n (by omega) c' hn
      refine ⟨by rw [List.length_set]; exact a, fun j => ?_, fun j hj => ?_, ?_, fun x hx => ?_⟩
      · rw [getD_set]; have := b j; split <;> omega
      · rw [getD_set]; have := d j hj; split <;> omega
      · rw [List.length_append, List.length_singleton]; dsimp only; omega
      · rcases List.mem_append.1 hx with hx | hx
        · exact f x hx
        · rw [List.mem_singleton.1 hx]; exact ⟨h0, h1⟩
    · rw [if_neg c2]; exact hs
  · rw [if_neg c]; exact hs
theorem area_in (w h : Int) (l : List Int) (L : Nat) (hL : l.length = L) (h64 : L ≤ 64) (i : Nat) (hi : i < L) (n : Int) (hn : 0 ≤ n) (x : Int) (ns : List Int) (hns : ns.length ≤ 4) (hb : ∀ q ∈ ns, 0 ≤ q ∧ q < (L : Int)) (b : Int) (Post : List Int × Int → Prop)
    (hend : ∀ s, okA L i n s → ∃ r, Post r ∧ Ev (fun k => spec_l12Areas.l2 k s.1 n i s.2 (wrap64 (x + 1)) w h l) r ∧ Ev (fun k => impl_Chart_areas.l1 k s.1 n i s.2 (wrap64 (x + 1)) b i w h l) r)
    (s : List Int × List Int) (hs : okA L i n s) : ∃ r, Post r ∧ Ev (fun k => spec_l12Areas.l3 k s.1 n i s.2 x ns 0 w h l) r ∧ Ev (fun k => impl_Chart_areas.l2 k s.1 n i s.2 x b i ns (ns.length : Int) 0 w h l) r := by
  refine Ev.two (fun k j (s : List Int × List Int) => spec_l12Areas.l3 k s.1 n i s.2 x ns j w h l) (fun k j (s : List Int × List Int) => impl_Chart_areas.l2 k s.1 n i s.2 x b i ns (ns.length : Int) j w h l) ns.length (fun j s t => s = t ∧ okA L i n s) Post
    (fun s t hs => ?_) (fun j s t hj hs => .inr ?_) s s ⟨rfl, hs⟩
  · obtain ⟨rfl, hs⟩ := hs
    obtain ⟨r, hr, h1, h2⟩ := hend s hs
    exact ⟨r, hr, Ev.step (fun k => by rw [spec_l12Areas.l3, if_neg (by omega)]) h1, Ev.step (fun k => by rw [impl_Chart_areas.l2, if_neg (by omega)]) h2⟩
  · obtain ⟨rfl, hs⟩ := hs
    have hm : ns.getD j 0 ∈ ns := by
      rw [List.getD_eq_getElem?_getD, List.getElem?_eq_getElem hj]
      exact List.getElem_mem hj
    have hq := hb _ hm
    obtain ⟨q, hqe⟩ : ∃ q, q = ns.getD j 0 := ⟨_, rfl⟩
    have e0 : rd ns (j : Int) = q := by rw [hqe]; rfl
    rw [← hqe] at hq
    have hs2 := hs
    obtain ⟨o1, o2, o3, o4, o5⟩ := hs2
    refine ⟨stA l i n q s, _, ⟨rfl, okA_step L i l n q hn hq.1 hq.2 s hs⟩, fun r hr => Ev.step (fun k => ?_) hr, fun r hr => Ev.step (fun k => ?_) hr⟩
    · rw [spec_l12Areas.l3, if_pos (by omega), if_pos (by omega), e0, if_pos (by omega), if_pos (by omega), wrap_id ((j : Int) + 1) (by omega) (by omega)]
      unfold stA
      by_cases c : rd s.1 q < 0
      · rw [if_pos c, if_pos c, if_pos (by omega), if_pos (by omega), if_pos (by omega)]
        by_cases c2 : rd l q = rd l i
        · rw [if_pos c2, if_pos c2, if_pos (by omega)]
        · rw [if_neg c2, if_neg c2]
      · rw [if_neg c, if_neg c]
    · rw [impl_Chart_areas.l2, if_pos (by omega), if_pos (by omega), if_pos (by omega), e0, if_pos (by omega), if_pos (by omega), wrap_id ((j : Int) + 1) (by omega) (by omega)]
      unfold stA
      by_cases c : rd s.1 q < 0
      · rw [if_pos c, if_pos c, if_pos (by omega), if_pos (by omega), if_pos (by omega)]
        by_cases c2 : rd l q = rd l i
        · rw [if_pos c2, if_pos c2, if_pos (by omega)]
        · rw [if_neg c2, if_neg c2]
      · rw [if_neg c, if_neg c]
theorem area_while (w h : Int) (l : List Int) (hk : okChart w h l = true) (i : Nat) (hi : i < l.length) (n : Int) (hn : 0 ≤ n) (b : Int) (Post : List Int × Int → Prop)
    (hend : ∀ s, okA l.length i n s → ∃ r, Post r ∧ Ev (fun k => spec_l12Areas.l1 k s.1 (wrap64 (n + 1)) (wrap64 ((i : Int) + 1)) w h l) r ∧ Ev (fun k => impl_Chart_areas.l0 k s.1 (wrap64 (n + 1)) b (wrap64 ((i : Int) + 1)) w h l) r) (d : Nat) :
    ∀ (x : Nat) (s : List Int × List Int), x + d = 65 → okA l.length i n s → ∃ r, Post r ∧ Ev (fun k => spec_l12Areas.l2 k s.1 n i s.2 (x : Int) w h l) r ∧ Ev (fun k => impl_Chart_areas.l1 k s.1 n i s.2 (x : Int) b i w h l) r := by
  obtain ⟨_, hw, hh, hlen, h64⟩ := okChart_iff w h l hk
  induction d with
  | zero =>
    intro x s hx hs
    have hs2 := hs
    obtain ⟨o1, o2, o3, o4, o5⟩ := hs2
    obtain ⟨r, hr, h1, h2⟩ := hend s hs
    exact ⟨r, hr, Ev.step (fun k => by rw [spec_l12Areas.l2, if_neg (by omega)]) h1, Ev.step (fun k => by rw [impl_Chart_areas.l1, if_neg (by omega)]) h2⟩
  | succ d ih =>
    intro x s hx hs
    by_cases hlt : x < s.2.length
    · have hm : s.2.getD x 0 ∈ s.2 := by
        rw [List.getD_eq_getElem?_getD, List.getElem?_eq_getElem hlt]
        exact List.getElem_mem hlt
      have hs2 := hs
      obtain ⟨o1, o2, o3, o4, o5⟩ := hs2
      have hq := o5 _ hm
      obtain ⟨p, hp⟩ : ∃ p, p = s.2.getD x 0 := ⟨_, rfl⟩
      have e0 : rd s.2 (x : Int) = p := by rw [hp]; rfl
      rw [← hp] at hq
      have hsp := place_split w h p hw hh hq.1 (by omega)
      have hnb := nb_bd w h (p / w) (p % w) hw hh ⟨hsp.2.2.2.1, hsp.2.2.2.2.1⟩ ⟨hsp.2.2.2.2.2.1, hsp.2.2.2.2.2.2.1⟩
      obtain ⟨r, hr, h1, h2⟩ := area_in w h l l.length rfl h64 i hi n hn (x : Int) (nb w h (p / w) (p % w)) (nb_length _ _ _ _) (fun q hq => by have := hnb q hq; omega) b Post (fun s' hs' => by
        rw [wrap_id ((x : Int) + 1) (by omega) (by omega)]
        have e : ((x + 1 : Nat) : Int) = (x : Int) + 1 := by omega
        have := ih (x + 1) s' (by omega) hs'
        rw [e] at this
        exact this) s hs
      refine ⟨r, hr, Ev.step (f := fun k => (spec_l12Next.f k w h l p).bind _) (fun k => by rw [spec_l12Areas.l2, if_pos (by omega), if_pos (by omega), e0]) (Ev.bind (Next_ev w h l p hw hh hq.1 (by omega) (by omega)) h1), Ev.step (f := fun k => (impl_Chart_besides.f k w h l p).bind _) (fun k => by rw [impl_Chart_areas.l1, if_pos (by omega), if_pos (by omega), e0]) (Ev.bind (besides_ev w h l hk p hq.1 (by omega)) h2)⟩
    · obtain ⟨r, hr, h1, h2⟩ := hend s hs
      exact ⟨r, hr, Ev.step (fun k => by rw [spec_l12Areas.l2, if_neg (by omega)]) h1, Ev.step (fun k => by rw [impl_Chart_areas.l1, if_neg (by omega)]) h2⟩
def okO (L i : Nat) (s : List Int × Int) : Prop := s.1.length = L ∧ 0 ≤ s.2 ∧ s.2 ≤ (i : Int) ∧ (0 < i → 1 ≤ s.2) ∧ (∀ j : Nat, j < L → -1 ≤ s.1.getD j 0 ∧ s.1.getD j 0 < s.2) ∧ ∀ j : Nat, j < i → 0 ≤ s.1.getD j 0
def okAreas (L : Nat) (s : List Int × Int) : Prop := s.1.length = L ∧ 1 ≤ s.2 ∧ s.2 ≤ 64 ∧ ∀ j : Nat, j < L → 0 ≤ s.1.getD j 0 ∧ s.1.getD j 0 < s.2
theorem area_out (w h : Int) (l : List Int) (hk : okChart w h l = true) (d : Nat) : ∀ (i : Nat) (s : List Int × Int), i + d = l.length → okO l.length i s →
    ∃ r, okAreas l.length r ∧ Ev (fun k => spec_l12Areas.l1 k s.1 s.2 (i : Int) w h l) r ∧ Ev (fun k => impl_Chart_areas.l0 k s.1 s.2 (l.length : Int) (i : Int) w h l) r := by
  obtain ⟨_, hw, hh, hlen, h64⟩ := okChart_iff w h l hk
  have hpos : 1 * 1 ≤ w * h := Int.mul_le_mul hw.1 hh.1 (by omega) (by omega)
  induction d with
  | zero =>
    intro i s hi hs
    obtain ⟨o1, o2, o3, o4, o5, o6⟩ := hs
    refine ⟨s, ⟨o1, o4 (by omega), by omega, fun j hj => ⟨o6 j (by omega), (o5 j hj).2⟩⟩, Ev.step (f := fun _ => some s) (fun k => by rw [spec_l12Areas.l1, if_neg (by omega)]) (Ev.now _), Ev.step (f := fun _ => some s) (fun k => by rw [impl_Chart_areas.l0, if_neg (by omega)]) (Ev.now _)⟩
  | succ d ih =>
    intro i s hi hs
    have hs2 := hs
    obtain ⟨o1, o2, o3, o4, o5, o6⟩ := hs2
    have e0 : rd s.1 (i : Int) = s.1.getD i 0 := rfl
    have e : ((i + 1 : Nat) : Int) = (i : Int) + 1 := by omega
    by_cases c : rd s.1 (i : Int) ≥ 0
    · obtain ⟨r, hr, h1, h2⟩ := ih (i + 1) s (by omega) ⟨o1, o2, by omega, fun _ => by have := o5 i (by omega); omega, o5, fun j hj => by
        by_cases hji : j = i
        · rw [hji]; rw [e0] at c; exact c
        · exact o6 j (by omega)⟩
      rw [e] at h1 h2
      exact ⟨r, hr, Ev.step (fun k => by rw [spec_l12Areas.l1, if_pos (by omega), if_pos (by omega), if_pos c, wrap_id _ (by omega) (by omega)]) h1, Ev.step (fun k => by rw [impl_Chart_areas.l0, if_pos (by omega), if_pos (by omega), if_pos (by omega), if_pos c, wrap_id _ (by omega) (by omega)]) h2⟩
    · have hneg : negs (s.1.set i s.2) + 1 = negs s.1 := negs_set s.1 i s.2 (by omega) (by rw [e0] at c; omega) o2
      have hle : negs s.1 ≤ s.1.length := List.countP_le_length
      obtain ⟨r, hr, h1, h2⟩ := area_while w h l hk i (by omega) s.2 o2 (l.length : Int) (okAreas l.length) (fun s' hs' => by
        obtain ⟨a1, a2, a3, a4, a5⟩ := hs'
        rw [wrap_id (s.2 + 1) (by omega) (by omega), wrap_id ((i : Int) + 1) (by omega) (by omega)]
        have := ih (i + 1) (s'.1, s.2 + 1) (by omega) ⟨a1, by dsimp only; omega, by dsimp only; omega, fun _ => by dsimp only; omega, fun j hj => by have := a2 j; dsimp only; omega, fun j hj => a3 j (by omega)⟩
        rw [e] at this
        exact this) 65 0 (s.1.set i s.2, [(i : Int)]) (by omega) ⟨by rw [List.length_set]; exact o1, fun j => by
          rw [getD_set]
          split
          · omega
          · by_cases hj : j < l.length
            · have := o5 j hj; omega
            · rw [List.getD_eq_getElem?_getD, List.getElem?_eq_none (by omega)]; simp; omega, fun j hj => by
          rw [getD_set]
          split
          · omega
          · exact o6 j (by omega), by simp only [List.length_singleton]; omega, fun q hq => by rw [List.mem_singleton.1 hq]; omega⟩
      exact ⟨r, hr, Ev.step (fun k => by rw [spec_l12Areas.l1, if_pos (by omega), if_pos (by omega), if_neg c, Int.toNat_natCast]; rfl) h1, Ev.step (fun k => by rw [impl_Chart_areas.l0, if_pos (by omega), if_pos (by omega), if_pos (by omega), if_neg c, Int.toNat_natCast]; rfl) h2⟩
theorem areas_same (w h : Int) (l : List Int) (hk : okChart w h l = true) : ∃ r, okAreas l.length r ∧ Ev (fun k => spec_l12Areas.f k w h l) r ∧ Ev (fun k => impl_Chart_areas.f k w h l) r := by
  obtain ⟨_, hw, hh, hlen, h64⟩ := okChart_iff w h l hk
  obtain ⟨r, hr, h1, h2⟩ := area_out w h l hk l.length 0 (List.replicate l.length (-1), 0) (by omega) ⟨by simp, by simp, by simp, fun hh => absurd hh (by omega), fun j hj => by
    rw [List.getD_eq_getElem?_getD, List.getElem?_replicate, if_pos hj]; simp, fun j hj => absurd hj (by omega)⟩
  refine ⟨r, hr, ?_, ?_⟩
  · unfold spec_l12Areas.f
    refine Ev.foldK (fun k i (s : List Int) => spec_l12Areas.l0 k s i w h l) l.length (fun _ s => s ++ [-1]) (fun i s => s = List.replicate i (-1)) r (fun i s hi hs => ⟨by rw [hs, List.replicate_succ'], fun h1 => Ev.step (fun k => ?_) h1⟩) [] rfl ?_
    · have : s.length = i := by rw [hs]; simp
      rw [spec_l12Areas.l0, if_pos (by omega), if_pos (by omega), wrap_id _ (by omega) (by omega)]
    · have e : loopN (fun _ s => s ++ [-1]) l.length ([] : List Int) = List.replicate l.length (-1) := loopN_inv (fun _ s => s ++ [-1]) (fun i s => s = List.replicate i (-1)) l.length (fun i s _ hs => by rw [hs, List.replicate_succ']) [] rfl
      rw [e]
      exact Ev.step (fun k => by rw [spec_l12Areas.l0, if_neg (by omega)]; rfl) h1
  · unfold impl_Chart_areas.f slices_Repeat_int_int.f
    rw [if_pos ⟨rfl, by omega, by omega⟩]
    simp only [Option.bind_some, Int.toNat_natCast]
    have e : ((List.replicate l.length (([(-1)] : List Int).getD 0 0)).length : Int) = (l.length : Int) := by rw [List.length_replicate]
    rw [e]
    exact h2
theorem sizes_l0_eq (k : Nat) : ∀ (a x y : List Int) (i w h : Int) (l : List Int), impl_Chart_sizes.l0 k a x y (a.length : Int) i w h l = spec_l12Sizes.l0 k a x y i w h l := by
  induction k with
  | zero => intros; rfl
  | succ k ih =>
    intro a x y i w h l
    rw [impl_Chart_sizes.l0, spec_l12Sizes.l0]
    by_cases c : i < (a.length : Int)
    · simp only [if_pos c, ih]
    · simp only [if_neg c]
theorem sizes_same (w h : Int) (l : List Int) (hk : okChart w h l = true) : ∃ r : List Int × List Int, (r.1.length = r.2.length ∧ 1 ≤ r.1.length ∧ r.1.length ≤ 64 ∧ ∀ j : Nat, 0 ≤ r.1.getD j 0 ∧ r.1.getD j 0 ≤ 64) ∧ Ev (fun k => spec_l12Sizes.f k w h l) r ∧ Ev (fun k => impl_Chart_sizes.f k w h l) r := by
  obtain ⟨_, hw, hh, hlen, h64⟩ := okChart_iff w h l hk
  obtain ⟨⟨a, n⟩, ⟨o1, o2, o3, o4⟩, h1, h2⟩ := areas_same w h l hk
  dsimp only at o1 o2 o3 o4
  obtain ⟨r, hr, h3⟩ := Ev.loopE (fun k i (s : List Int × List Int) => spec_l12Sizes.l0 k a s.1 s.2 i w h l) a.length (fun i s => s.1.length = n.toNat ∧ s.2.length = n.toNat ∧ ∀ j : Nat, 0 ≤ s.1.getD j 0 ∧ s.1.getD j 0 ≤ (i : Int)) (fun r => r.1.length = r.2.length ∧ 1 ≤ r.1.length ∧ r.1.length ≤ 64 ∧ ∀ j : Nat, 0 ≤ r.1.getD j 0 ∧ r.1.getD j 0 ≤ 64)
    (fun s hs => ⟨s, ⟨by omega, by omega, by omega, fun j => by have := hs.2.2 j; omega⟩, Ev.step (f := fun _ => some _) (fun k => by rw [spec_l12Sizes.l0, if_neg (by omega)]) (Ev.now _)⟩)
    (fun i s hi hs => by
      obtain ⟨z1, z2, z3⟩ := hs
      have hb := o4 i (by omega)
      obtain ⟨q, hq⟩ : ∃ q, q = a.getD i 0 := ⟨_, rfl⟩
      have e0 : rd a (i : Int) = q := by rw [hq]; rfl
      have e1 : rd s.1 q = s.1.getD q.toNat 0 := rfl
      rw [← hq] at hb
      have hz := z3 q.toNat
      refine ⟨(s.1.set q.toNat (s.1.getD q.toNat 0 + 1), s.2.set q.toNat (rd l i)), ⟨by rw [List.length_set]; exact z1, by rw [List.length_set]; exact z2, fun j => ?_⟩, fun r h => Ev.step (fun k => ?_) h⟩
      · dsimp only
        rw [getD_set]
        have := z3 j
        split <;> omega
      · rw [spec_l12Sizes.l0, if_pos (by omega), if_pos (by omega), e0, if_pos (by omega), if_pos (by omega), if_pos (by omega), if_pos (by omega), e1, wrap_id (s.1.getD q.toNat 0 + 1) (by omega) (by omega), wrap_id _ (by omega) (by omega)]) (List.replicate n.toNat 0, List.replicate n.toNat 0) ⟨by simp, by simp, fun j => by
        dsimp only
        rw [List.getD_eq_getElem?_getD, List.getElem?_replicate]; split <;> simp⟩
  refine ⟨r, hr, ?_, ?_⟩
  · unfold spec_l12Sizes.f
    refine Ev.bind h1 ?_
    simp only [if_pos (show 0 ≤ n by omega), if_pos (show n.toNat ≤ 35184372088832 by omega)]
    exact h3
  · unfold impl_Chart_sizes.f
    refine Ev.bind h2 ?_
    simp only [if_pos (show 0 ≤ n by omega), if_pos (show n.toNat ≤ 35184372088832 by omega), sizes_l0_eq]
    exact h3
theorem color_l0_eq (k : Nat) : ∀ (c : Int) (o S C : List Int) (i : Int), impl_Chart_sizesOf.l0 k c o S C (S.length : Int) i = spec_l12Color.l0 k c S C o i := by
  induction k with
  | zero => intros; rfl
  | succ k ih =>
    intro c o S C i
    rw [impl_Chart_sizesOf.l0, spec_l12Color.l0]
    by_cases q : i < (S.length : Int)
    · simp only [if_pos q, ih]
    · simp only [if_neg q]
theorem sizesOf_same (w h : Int) (l : List Int) (hk : okChart w h l = true) (c : Int) : ∃ r : List Int, (r.length ≤ 64 ∧ ∀ j : Nat, 0 ≤ r.getD j 0 ∧ r.getD j 0 ≤ 64) ∧ Ev (fun k => spec_l12Color.f k w h l c) r ∧ Ev (fun k => impl_Chart_sizesOf.f k w h l c) r := by
  obtain ⟨⟨S, C⟩, ⟨z1, z2, z3, z4⟩, ha, hb⟩ := sizes_same _ _ _ hk
  dsimp only at z1 z2 z3 z4
  obtain ⟨r, hr, h1⟩ := Ev.loopE (fun k i (o : List Int) => spec_l12Color.l0 k c S C o i) S.length (fun i o => o.length ≤ i ∧ ∀ j : Nat, 0 ≤ o.getD j 0 ∧ o.getD j 0 ≤ 64) (fun r => r.length ≤ 64 ∧ ∀ j : Nat, 0 ≤ r.getD j 0 ∧ r.getD j 0 ≤ 64)
    (fun o ho => ⟨o, ⟨by have := ho.1; omega, ho.2⟩, Ev.step (f := fun _ => some o) (fun k => by rw [spec_l12Color.l0, if_neg (by omega)]) (Ev.now _)⟩)
    (fun i o hi ho => by
      obtain ⟨o1, o2⟩ := ho
      have e0 : rd S (i : Int) = S.getD i 0 := rfl
      by_cases q : rd C (i : Int) = c
      · refine ⟨o ++ [S.getD i 0], ⟨by rw [List.length_append, List.length_singleton]; omega, fun j => ?_⟩, fun r h => Ev.step (fun k => ?_) h⟩
        · rw [List.getD_eq_getElem?_getD, List.getElem?_append]
          split
          · rw [← List.getD_eq_getElem?_getD]; exact o2 j
          · rw [List.getElem?_singleton]
            split
            · exact z4 i
            · simp
        · rw [spec_l12Color.l0, if_pos (by omega), if_pos (by omega), if_pos (by omega), if_pos q, if_pos (by omega), e0, wrap_id _ (by omega) (by omega)]
      · exact ⟨o, ⟨by omega, o2⟩, fun r h => Ev.step (fun k => by rw [spec_l12Color.l0, if_pos (by omega), if_pos (by omega), if_pos (by omega), if_neg q, wrap_id _ (by omega) (by omega)]) h⟩) [] ⟨by simp, fun j => by simp⟩
  refine ⟨r, hr, ?_, ?_⟩
  · unfold spec_l12Color.f; exact Ev.bind ha h1
  · unfold impl_Chart_sizesOf.f
    refine Ev.bind hb ?_
    dsimp only
    simp only [color_l0_eq]
    exact h1
theorem specColor_eq (c : Int) : spec_l2Color.f c = some (rng c 0 5) := by unfold spec_l2Color.f; rw [l1In_eq]; rfl
theorem isColor_eq (c : Int) : impl_isColor.f c = some (rng c 0 5) := by unfold impl_isColor.f; rw [in_eq]; rfl
def okLots (l : List Int) : Bool := (l.all fun x => rng x 1 100) && rng (l.length : Int) 1 6
theorem okLots_iff (l : List Int) (h : okLots l = true) : (∀ i, i < l.length → 1 ≤ l.getD i 0 ∧ l.getD i 0 ≤ 100) ∧ 1 ≤ l.length ∧ l.length ≤ 6 := by
  unfold okLots at h
  rw [Bool.and_eq_true, rng_iff] at h
  refine ⟨fun i hi => ?_, by omega, by omega⟩
  have := (all_getD 0 l _).1 h.1 i hi
  exact (rng_iff _ _ _).1 this
theorem specLots_ev (l : List Int) (hl : l.length ≤ 2000000) : Ev (fun k => spec_l12Lots.f k l) (okLots l) := by
  unfold spec_l12Lots.f
  have e : okLots l = ((List.range l.length).all (fun i => rng (l.getD i 0) 1 100) && rng (l.length : Int) 1 6) := by
    unfold okLots
    congr 1
    rw [Bool.eq_iff_iff, all_getD 0, all_range]
  rw [e]
  refine Ev.scan (fun k i => spec_l12Lots.l0 k l i) l.length _ _ (Ev.step (f := fun _ => some _) (fun k => ?_) (Ev.now _)) ?_ ?_
  · rw [spec_l12Lots.l0, if_neg (by omega), l1In_eq]
    rfl
  · intro i hi hg
    refine Ev.step (f := fun _ => some false) (fun k => ?_) (Ev.now _)
    have e0 : rd l (i : Int) = l.getD i 0 := rfl
    rw [spec_l12Lots.l0, if_pos (by omega), if_pos (by omega), l1In_eq, e0, hg]
    rfl
  · intro i r hi hg hr
    refine Ev.step (fun k => ?_) hr
    have e0 : rd l (i : Int) = l.getD i 0 := rfl
    rw [spec_l12Lots.l0, if_pos (by omega), if_pos (by omega), l1In_eq, e0, hg, wrap_id _ (by omega) (by omega)]
    rfl
theorem areLots_eq (l : List Int) : impl_areLots.f l = some (okLots l) := by
  unfold impl_areLots.f areAll_impl_areLots_1.f okLots
  simp only [in_eq, Option.bind_some]
  cases rng (l.length : Int) 1 6 <;> simp
theorem specAsked_ev (w h : Int) (l : List Int) (c : Int) (q : List Int) (hl : l.length ≤ 2000000) (hq : q.length ≤ 2000000) : Ev (fun k => spec_l12Asked.f k w h l c q) (okChart w h l && (rng c 0 5 && okLots q)) := by
  unfold spec_l12Asked.f
  refine Ev.bind (l2Good_ev w h l hl) ?_
  simp only [specColor_eq, Option.bind_some]
  cases okChart w h l with
  | false => exact Ev.now _
  | true =>
    cases rng c 0 5 with
    | false => exact Ev.now _
    | true => simp only [if_true, Bool.true_and]; exact Ev.bind (specLots_ev q hq) (Ev.now _)
theorem fits_two (S q A : List Int) (hS : ∀ j : Nat, 0 ≤ S.getD j 0 ∧ S.getD j 0 ≤ 64) (hq : okLots q = true) (hA : A.length = S.length) (h64 : S.length ≤ 64) : ∃ r : Bool × Bool, True ∧ Ev (fun k => (spec_l12Fits.l0 k S q A (List.replicate q.length 0) 0).bind fun t => some (t, true)) r ∧ Ev (fun k => impl_IsAssignment.l0 k q S q A (A.length : Int) 0) r := by
  obtain ⟨q1, q2, q3⟩ := okLots_iff q hq
  refine Ev.two (fun k i (u : List Int) => (spec_l12Fits.l0 k S q A u i).bind fun t => some (t, true)) (fun k i (v : List Int) => impl_IsAssignment.l0 k q S v A (A.length : Int) i) A.length (fun i u v => u.length = q.length ∧ v.length = q.length ∧ ∀ j : Nat, j < q.length → 0 ≤ u.getD j 0 ∧ u.getD j 0 ≤ q.getD j 0 ∧ v.getD j 0 = q.getD j 0 - u.getD j 0) (fun _ => True)
    (fun u v hs => ?_) (fun i u v hi hs => ?_) (List.replicate q.length 0) q ⟨by simp, rfl, fun j hj => by
      have := q1 j hj
      have ez : (List.replicate q.length (0 : Int)).getD j 0 = 0 := by rw [List.getD_eq_getElem?_getD, List.getElem?_replicate, if_pos hj]; rfl
      rw [ez]
      omega⟩
  · exact ⟨(true, true), trivial, Ev.step (f := fun _ => some (true, true)) (fun k => by rw [spec_l12Fits.l0, if_neg (by omega)]; rfl) (Ev.now _), Ev.step (f := fun _ => some (true, true)) (fun k => by rw [impl_IsAssignment.l0, if_neg (by omega)]) (Ev.now _)⟩
  · obtain ⟨u1, v1, huv⟩ := hs
    obtain ⟨a, ha⟩ : ∃ a, a = A.getD i 0 := ⟨_, rfl⟩
    have e0 : rd A (i : Int) = a := by rw [ha]; rfl
    have eS : rd S (i : Int) = S.getD i 0 := rfl
    have hSi := hS i
    have w1 : wrap64 ((q.length : Int) - 1) = (q.length : Int) - 1 := wrap_id _ (by omega) (by omega)
    cases hin : rng a 0 ((q.length : Int) - 1) with
    | false =>
      refine .inl ⟨(false, true), trivial, Ev.step (f := fun k => (spec_l12Fits.j1 k S q A u i a true).bind fun t => some (t, true)) (fun k => ?_) (Ev.step (f := fun _ => some (false, true)) (fun k => by rw [spec_l12Fits.j1, if_pos rfl]; rfl) (Ev.now _)), Ev.step (f := fun _ => some (false, true)) (fun k => ?_) (Ev.now _)⟩
      · rw [spec_l12Fits.l0, if_pos (by omega), if_pos (by omega), e0, w1, l1In_eq, hin]
        rfl
      · rw [impl_IsAssignment.l0, if_pos (by omega), if_pos (by omega), if_pos (by omega), e0, w1, in_eq, hin]
        rfl
    | true =>
      have hin2 := (rng_iff _ _ _).1 hin
      obtain ⟨x1, x2, x3⟩ := huv a.toNat (by omega)
      have x4 := q1 a.toNat (by omega)
      have eu : rd u a = u.getD a.toNat 0 := rfl
      have ev : rd v a = v.getD a.toNat 0 := rfl
      have eq : rd q a = q.getD a.toNat 0 := rfl
      have hset : rd (u.set a.toNat (u.getD a.toNat 0 + S.getD i 0)) a = u.getD a.toNat 0 + S.getD i 0 := by
        have : rd (u.set a.toNat (u.getD a.toNat 0 + S.getD i 0)) a = (u.set a.toNat (u.getD a.toNat 0 + S.getD i 0)).getD a.toNat 0 := rfl
        rw [this, getD_set, if_pos ⟨rfl, by omega⟩]
      have hs1 : ∀ k, spec_l12Fits.l0 (k + 1) S q A u (i : Int) = spec_l12Fits.j1 k S q A u i a false := fun k => by
        rw [spec_l12Fits.l0, if_pos (by omega), if_pos (by omega), e0, w1, l1In_eq, hin, Option.bind_some, if_pos rfl, decide_eq_false (show ¬ (i : Int) ≥ (S.length : Int) by omega)]
      have hs2 : ∀ k, spec_l12Fits.j1 (k + 1) S q A u (i : Int) a false = if u.getD a.toNat 0 + S.getD i 0 > q.getD a.toNat 0 then some false else spec_l12Fits.l0 k S q A (u.set a.toNat (u.getD a.toNat 0 + S.getD i 0)) ((i : Int) + 1) := fun k => by
        rw [spec_l12Fits.j1, if_neg (by decide), if_pos (by omega), if_pos (by omega), if_pos (by omega), if_pos (by omega), eu, eS, wrap_id (u.getD a.toNat 0 + S.getD i 0) (by omega) (by omega), Option.bind_some, if_pos (by omega), hset, eq, wrap_id ((i : Int) + 1) (by omega) (by omega)]
      have hi1 : ∀ k, impl_IsAssignment.l0 (k + 1) q S v A (A.length : Int) (i : Int) = if v.getD a.toNat 0 < S.getD i 0 then some (false, true) else impl_IsAssignment.l0 k q S (v.set a.toNat (v.getD a.toNat 0 - S.getD i 0)) A (A.length : Int) ((i : Int) + 1) := fun k => by
        rw [impl_IsAssignment.l0, if_pos (by omega), if_pos (by omega), if_pos (by omega), e0, w1, in_eq, hin, Option.bind_some, if_pos rfl, if_pos (by omega), if_pos (by omega), if_pos (by omega), ev, eS, wrap_id (v.getD a.toNat 0 - S.getD i 0) (by omega) (by omega), wrap_id ((i : Int) + 1) (by omega) (by omega)]
      by_cases c : u.getD a.toNat 0 + S.getD i 0 > q.getD a.toNat 0
      · refine .inl ⟨(false, true), trivial, Ev.step (f := fun k => (spec_l12Fits.j1 k S q A u i a false).bind fun t => some (t, true)) (fun k => by rw [hs1]) (Ev.step (f := fun _ => some (false, true)) (fun k => by rw [hs2, if_pos c]; rfl) (Ev.now _)), Ev.step (f := fun _ => some (false, true)) (fun k => by rw [hi1, if_pos (by omega)]) (Ev.now _)⟩
      · refine .inr ⟨u.set a.toNat (u.getD a.toNat 0 + S.getD i 0), v.set a.toNat (v.getD a.toNat 0 - S.getD i 0), ⟨by rw [List.length_set]; exact u1, by rw [List.length_set]; exact v1, fun j hj => ?_⟩, fun r hr => Ev.step (f := fun k => (spec_l12Fits.j1 k S q A u i a false).bind fun t => some (t, true)) (fun k => by rw [hs1]) (Ev.step (fun k => by rw [hs2, if_neg c]) hr), fun r hr => Ev.step (fun k => by rw [hi1, if_neg (by omega)]) hr⟩
        rw [getD_set, getD_set]
        have := huv j hj
        by_cases e : a.toNat = j
        · subst e
          rw [if_pos ⟨rfl, by omega⟩, if_pos ⟨rfl, by omega⟩]
          omega
        · rw [if_neg (fun h => e h.1), if_neg (fun h => e h.1)]
          exact this
theorem IsAssignment_same (w h : Int) (l : List Int) (c : Int) (q A : List Int) (hl : l.length ≤ 2000000) (hq : q.length ≤ 2000000) : ∃ r : Bool × Bool, Ev (fun k => spec_IsAssignment.f k w h l c q A) r ∧ Ev (fun k => impl_IsAssignment.f k w h l c q A) r := by
  unfold spec_IsAssignment.f impl_IsAssignment.f
  simp only [IsChart_eq, isColor_eq, areLots_eq, Option.bind_some]
  have hs := specAsked_ev w h l c q hl hq
  have hj0 : Ev (fun k => impl_IsAssignment.j0 k c q A true w h l) (false, false) := Ev.step (f := fun _ => some (false, false)) (fun k => by rw [impl_IsAssignment.j0, if_pos rfl]) (Ev.now _)
  cases hk : okChart w h l with
  | false =>
    rw [hk] at hs
    exact ⟨(false, false), Ev.bind hs (by simp only [Bool.false_and, Bool.false_eq_true, if_false]; exact Ev.now _), by simp only [Bool.false_eq_true, if_false]; exact hj0⟩
  | true =>
    rw [hk] at hs
    cases hc : rng c 0 5 with
    | false =>
      rw [hc] at hs
      exact ⟨(false, false), Ev.bind hs (by simp only [Bool.false_and, Bool.true_and, Bool.false_eq_true, if_false]; exact Ev.now _), by simp only [Bool.false_eq_true, if_true, if_false]; exact hj0⟩
    | true =>
      rw [hc] at hs
      cases ho : okLots q with
      | false =>
        rw [ho] at hs
        exact ⟨(false, false), Ev.bind hs (by simp only [Bool.and_false, Bool.false_eq_true, if_false]; exact Ev.now _), by simp only [if_true, Bool.not_false]; exact hj0⟩
      | true =>
        rw [ho] at hs
        obtain ⟨S, ⟨z1, z2⟩, ha, hb⟩ := sizesOf_same w h l hk c
        have ecl : slices_Clone_int.f q = some q := by unfold slices_Clone_int.f; rw [if_pos (by omega)]
        have step0 : ∀ r, Ev (fun k => if (S.length : Int) = (A.length : Int) then impl_IsAssignment.l0 k q S q A (A.length : Int) 0 else some (false, true)) r → Ev (fun k => impl_IsAssignment.j0 k c q A false w h l) r := fun r hr =>
          Ev.step (f := fun k => (impl_Chart_sizesOf.f k w h l c).bind fun t => (slices_Clone_int.f q).bind fun u => if (t.length : Int) = (A.length : Int) then impl_IsAssignment.l0 k q t u A (A.length : Int) 0 else some (false, true)) (fun k => by rw [impl_IsAssignment.j0, if_neg (by decide)]) (Ev.bind hb (by simp only [ecl, Option.bind_some]; exact hr))
        by_cases e : A.length = S.length
        · obtain ⟨r, _, h1, h2⟩ := fits_two S q A z2 ho e z1
          refine ⟨r, Ev.bind hs ?_, ?_⟩
          · simp only [Bool.and_self, if_true]
            refine Ev.bind ha ?_
            unfold spec_l12Fits.f
            simp only [if_pos (show (A.length : Int) = (S.length : Int) by omega), if_pos (show 0 ≤ (q.length : Int) by omega), Int.toNat_natCast, if_pos (show q.length ≤ 35184372088832 by omega)]
            exact h1
          · simp only [if_true, Bool.not_true]
            exact step0 r (by simp only [if_pos (show (S.length : Int) = (A.length : Int) by omega)]; exact h2)
        · refine ⟨(false, true), Ev.bind hs ?_, ?_⟩
          · simp only [Bool.and_self, if_true]
            refine Ev.bind ha ?_
            simp only [if_neg (show ¬ (A.length : Int) = (S.length : Int) by omega)]
            exact Ev.now _
          · simp only [if_true, Bool.not_true]
            exact step0 _ (by simp only [if_neg (show ¬ (S.length : Int) = (A.length : Int) by omega)]; exact Ev.now _)
theorem eqInts_ev (t : List Int) (ht : t.length ≤ 2000000) : Ev (fun k => laws_eqIntS.f k t t) true := by
  refine Ev.congr (f := fun k => laws_eqIntS.l0 k t t 0) (fun k => by unfold laws_eqIntS.f; rw [if_pos rfl]) ?_
  obtain ⟨r, hr, h⟩ := Ev.loopE (fun k i (_ : Unit) => laws_eqIntS.l0 k t t i) t.length (fun _ _ => True) (fun r => r = true)
    (fun s _ => ⟨true, rfl, Ev.step (fun k => by rw [laws_eqIntS.l0, if_neg (by omega)]) (Ev.now true)⟩)
    (fun i s hi _ => ⟨(), trivial, fun r h => Ev.step (fun k => by
      rw [laws_eqIntS.l0, if_pos (by omega), if_pos (by omega), if_pos (by omega), if_pos rfl, wrap_id _ (by omega) (by omega)]) h⟩) () trivial
  subst hr
  exact h
theorem eqChart_ev (w h : Int) (t : List Int) (hl : t.length ≤ 2000000) : Ev (fun k => laws_eqChart.f k w h t w h t) true := by
  unfold laws_eqChart.f
  simp only [if_true]
  exact Ev.bind (eqInts_ev t hl) (by simp only [if_true]; exact Ev.now _)
theorem FnExactIsAssignment (a0_0 : Int) (a0_1 : Int) (l0_2 : List (Int)) (a1 : Int) (l2 : List (Int)) (l3 : List (Int)) (q_a0_0 : (Lit.int .i64 a0_0).wf = true) (q_a0_1 : (Lit.int .i64 a0_1).wf = true) (q_l0_2 : (l0_2.length ≤ maxLen ∧ ∀ q ∈ l0_2, (Lit.int .i64 q).wf = true)) (q_a1 : (Lit.int .i64 a1).wf = true) (q_l2 : (l2.length ≤ maxLen ∧ ∀ q ∈ l2, (Lit.int .i64 q).wf = true)) (q_l3 : (l3.length ≤ maxLen ∧ ∀ q ∈ l3, (Lit.int .i64 q).wf = true)) : ∃ k, laws_FnExactIsAssignment.f k a0_0 a0_1 l0_2 a1 l2 l3 = some true := by
  by_cases m2 : (l2.length : Int) > 1048576
  · refine ⟨0, ?_⟩
    unfold laws_FnExactIsAssignment.f
    rw [if_pos m2]
  by_cases m3 : (l3.length : Int) > 1048576
  · refine ⟨0, ?_⟩
    unfold laws_FnExactIsAssignment.f
    rw [if_neg m2, if_pos m3]
  by_cases hl : (l0_2.length : Int) ≤ 1048576
  · obtain ⟨t, ht, K1, h1⟩ := toChart_ev a0_0 a0_1 l0_2 (by omega)
    obtain ⟨q, hq, K5, h5⟩ := toInts_ev l2 (by omega)
    obtain ⟨A, hA, K6, h6⟩ := toInts_ev l3 (by omega)
    obtain ⟨r, ⟨K2, h2⟩, K3, h3⟩ := IsAssignment_same a0_0 a0_1 t a1 q A (by omega) (by omega)
    obtain ⟨K4, h4⟩ := eqChart_ev a0_0 a0_1 t (by omega)
    obtain ⟨K7, h7⟩ := eqInts_ev q (by omega)
    obtain ⟨K8, h8⟩ := eqInts_ev A (by omega)
    obtain ⟨N, hN⟩ : ∃ N, N = K1 + K2 + K3 + K4 + K5 + K6 + K7 + K8 := ⟨_, rfl⟩
    replace h1 := fun j => h1 (N + j) (by omega)
    replace h2 := fun j => h2 (N + j) (by omega)
    replace h3 := fun j => h3 (N + j) (by omega)
    replace h4 := fun j => h4 (N + j) (by omega)
    replace h5 := fun j => h5 (N + j) (by omega)
    replace h6 := fun j => h6 (N + j) (by omega)
    replace h7 := fun j => h7 (N + j) (by omega)
    replace h8 := fun j => h8 (N + j) (by omega)
    dsimp only at h1 h2 h3 h4 h5 h6 h7 h8
    refine ⟨N + 4, ?_⟩
    unfold laws_FnExactIsAssignment.f
    rw [if_neg m2, if_neg m3, szChart2 a0_0 a0_1 l0_2 hl, Option.bind_some, if_neg (by omega)]
    simp only [h1, h2, h3, h4, h5, h6, h7, h8, laws_FnExactIsAssignment.j0, Option.bind_some, if_true, if_false, bne_self_eq_false, Bool.false_eq_true]
  · refine ⟨0, ?_⟩
    unfold laws_FnExactIsAssignment.f
    rw [if_neg m2, if_neg m3, szChart1 a0_0 a0_1 l0_2 hl q_l0_2.1]
    rfl
end Go.Proofs.Ytaadbpibmlnncaa.Pure
