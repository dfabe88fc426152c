/- The plain law of FnExactAreaNeighbors: what the program's functions compute is what the reference's compute. No program and no memory in it. -/
import Derived.Test.YtaadbpibmlnncaaHx25
import Derived.Test.YtaadbpibmlnncaaLps
namespace Go.Proofs.Ytaadbpibmlnncaa.Pure
open Go.RowKit Go.Proofs.YtaadbpibmlnncaaW.PrintWords Go.Proofs.YtaadbpibmlnncaaW.PrintLast Go.Proofs.Ytaadbpibmlnncaa.H
set_option linter.unusedVariables false
set_option linter.unusedSimpArgs false
theorem Ev.foldK {σ ρ : Type} (g : Nat → Int → σ → Option ρ) (n : Nat) (f : Nat → σ → σ) (Inv : Nat → σ → Prop) (r : ρ)
    (hstep : ∀ (i : Nat) s, i < n → Inv i s → Inv (i + 1) (f i s) ∧ (Ev (fun k => g k ((i : Int) + 1) (f i s)) r → Ev (fun k => g k (i : Int) s) r))
    (s : σ) (h0 : Inv 0 s) (hend : Ev (fun k => g k (n : Int) (loopN f n s)) r) : Ev (fun k => g k 0 s) r := by
  have key : ∀ i, i ≤ n → Inv i (loopN f i s) ∧ (Ev (fun k => g k (i : Int) (loopN f i s)) r → Ev (fun k => g k 0 s) r) := by
    intro i
    induction i with
    | zero => exact fun _ => ⟨h0, fun h => h⟩
    | succ i ih =>
      intro hi
      obtain ⟨h1, h2⟩ := ih (by omega)
      obtain ⟨h3, h4⟩ := hstep i _ (by omega) h1
      refine ⟨h3, fun h => h2 (h4 ?_)⟩
      have e : ((i + 1 : Nat) : Int) = (i : Int) + 1 := by omega
      rw [e] at h
      exact h
  exact (key n (Nat.le_refl _)).2 hend
theorem loopN_inv {σ : Type} (f : Nat → σ → σ) (Inv : Nat → σ → Prop) (n : Nat) (hstep : ∀ i s, i < n → Inv i s → Inv (i + 1) (f i s)) (s : σ) (h0 : Inv 0 s) : Inv n (loopN f n s) := by
  have key : ∀ i, i ≤ n → Inv i (loopN f i s) := by
    intro i
    induction i with
    | zero => exact fun _ => h0
    | succ i ih => exact fun hi => hstep i _ (by omega) (ih (by omega))
  exact key n (Nat.le_refl _)
theorem l1In_eq (a b c : Int) : spec_l1In.f a b c = some (rng a b c) := spec_l1In.eq a b c
theorem in_eq (a b c : Int) : impl_in.f a b c = some (rng a b c) := impl_in.eq a b c
theorem ext_getD {α : Type} (z : α) (a b : List α) (hl : a.length = b.length) (h : ∀ j, j < a.length → a.getD j z = b.getD j z) : a = b := by
  apply List.ext_getElem hl
  intro j h1 h2
  have := h j h1
  rwa [List.getD_eq_getElem?_getD, List.getD_eq_getElem?_getD, List.getElem?_eq_getElem h1, List.getElem?_eq_getElem h2] at this
theorem take_succ_getD {α : Type} (z : α) (a : List α) (i : Nat) (h : i < a.length) : a.take (i + 1) = a.take i ++ [a.getD i z] := by
  rw [List.take_succ_eq_append_getElem h, List.getD_eq_getElem?_getD, List.getElem?_eq_getElem h]
  rfl
theorem getD_map' {α β : Type} (f : α → β) (z : α) (y : β) (a : List α) (i : Nat) (h : i < a.length) : (a.map f).getD i y = f (a.getD i z) := by
  rw [List.getD_eq_getElem?_getD, List.getElem?_map, List.getD_eq_getElem?_getD, List.getElem?_eq_getElem h]
  rfl
theorem set_mid {α : Type} (f : α → α) (z : α) (a : List α) (i : Nat) (h : i < a.length) : ((a.take i).map f ++ a.drop i).set i (f (a.getD i z)) = (a.take (i + 1)).map f ++ a.drop (i + 1) := by
  have e : a.drop i = a.getD i z :: a.drop (i + 1) := by
    rw [List.drop_eq_getElem_cons h, List.getD_eq_getElem?_getD, List.getElem?_eq_getElem h]
    rfl
  rw [e, take_succ_getD z a i h, List.map_append, List.append_assoc]
  have hl : ((a.take i).map f).length = i := by rw [List.length_map, List.length_take]; omega
  rw [List.set_append_right _ _ (by omega), hl, Nat.sub_self]
  rfl
theorem mid_getD {α : Type} (f : α → α) (z : α) (a : List α) (i : Nat) (h : i < a.length) : ((a.take i).map f ++ a.drop i).getD i z = a.getD i z := by
  have hl : ((a.take i).map f).length = i := by rw [List.length_map, List.length_take]; omega
  rw [List.getD_eq_getElem?_getD, List.getElem?_append_right (by omega), hl, Nat.sub_self, List.getElem?_drop, Nat.add_zero, List.getD_eq_getElem?_getD]
theorem mid_length {α : Type} (f : α → α) (a : List α) (i : Nat) : ((a.take i).map f ++ a.drop i).length = a.length := by
  rw [List.length_append, List.length_map, List.length_take, List.length_drop]; omega
def okChart (w h : Int) (l : List Int) : Bool := (l.all fun x => rng x 0 5) && (rng w 1 8 && (rng h 1 8 && ((l.length : Int) == wrap64 (w * h))))
theorem okChart_iff (w h : Int) (l : List Int) (hk : okChart w h l = true) : (∀ i, i < l.length → 0 ≤ l.getD i 0 ∧ l.getD i 0 ≤ 5) ∧ (1 ≤ w ∧ w ≤ 8) ∧ (1 ≤ h ∧ h ≤ 8) ∧ (l.length : Int) = w * h ∧ l.length ≤ 64 := by
  unfold okChart at hk
  simp only [Bool.and_eq_true, rng_iff, beq_iff_eq] at hk
  obtain ⟨h1, h2, h3, h4⟩ := hk
  have p0 : 0 ≤ w * h := Int.mul_nonneg (by omega) (by omega)
  have p1 : w * h ≤ 8 * 8 := Int.mul_le_mul h2.2 h3.2 (by omega) (by omega)
  rw [wrap_id _ (by omega) (by omega)] at h4
  refine ⟨fun i hi => ?_, h2, h3, h4, by omega⟩
  have := (all_getD 0 l _).1 h1 i hi
  exact (rng_iff _ _ _).1 this
theorem l2Good_ev (w h : Int) (l : List Int) (hl : l.length ≤ 2000000) : Ev (fun k => spec_l2Good.f k w h l) (okChart w h l) := by
  unfold spec_l2Good.f
  have e : okChart w h l = ((List.range l.length).all (fun i => rng (l.getD i 0) 0 5) && (rng w 1 8 && (rng h 1 8 && ((l.length : Int) == wrap64 (w * h))))) := by
    unfold okChart
    congr 1
    rw [Bool.eq_iff_iff, all_getD 0, all_range]
  rw [e]
  refine Ev.scan (fun k i => spec_l2Good.l0 k i w h l) l.length _ _ (Ev.step (f := fun _ => some _) (fun k => ?_) (Ev.now _)) ?_ ?_
  · rw [spec_l2Good.l0, if_neg (by omega)]
    unfold spec_l2Side.f
    simp only [l1In_eq, Option.bind_some]
    cases rng w 1 8 <;> cases rng h 1 8 <;> rfl
  · intro i hi hg
    refine Ev.step (f := fun _ => some false) (fun k => ?_) (Ev.now _)
    rw [spec_l2Good.l0, if_pos (by omega), if_pos (by omega)]
    unfold spec_l2Color.f
    have e0 : rd l (i : Int) = l.getD i 0 := rfl
    rw [l1In_eq, e0, hg]
    rfl
  · intro i r hi hg hr
    refine Ev.step (fun k => ?_) hr
    rw [spec_l2Good.l0, if_pos (by omega), if_pos (by omega)]
    unfold spec_l2Color.f
    have e0 : rd l (i : Int) = l.getD i 0 := rfl
    rw [l1In_eq, e0, hg, wrap_id _ (by omega) (by omega)]
    rfl
theorem IsChart_eq (w h : Int) (l : List Int) : impl_IsChart.f w h l = some (okChart w h l) := by
  unfold impl_IsChart.f impl_isSide.f areAll_impl_isColor.f okChart
  simp only [in_eq, Option.bind_some]
  by_cases e : (l.length : Int) = wrap64 (w * h)
  · rw [if_pos e, beq_iff_eq.2 e]
    cases rng w 1 8 <;> cases rng h 1 8 <;> simp
  · rw [if_neg e, beq_eq_false_iff_ne.2 e]
    cases rng w 1 8 <;> cases rng h 1 8 <;> simp
theorem szChart1 (w h : Int) (l : List Int) (hk : ¬ (l.length : Int) ≤ 1048576) (hm : l.length ≤ maxLen) : laws_szChart.f w h l 1048576 = some (-1) := by
  have hm' : l.length ≤ 9223372036854775807 := hm
  unfold laws_szChart.f laws_szIntS.f
  rw [wrap_id _ (by omega) (by omega), if_pos (by omega)]
  rfl
theorem szChart2 (w h : Int) (l : List Int) (hk : (l.length : Int) ≤ 1048576) : laws_szChart.f w h l 1048576 = some (1048576 - (l.length : Int)) := by
  unfold laws_szChart.f laws_szIntS.f
  rw [wrap_id _ (by omega) (by omega), if_neg (by omega), Option.bind_some, if_neg (by omega)]
theorem toInts_ev (l : List Int) (hl : l.length ≤ 2000000) : ∃ t : List Int, t.length = l.length ∧ Ev (fun k => laws_toIntS.f k l) t := by
  obtain ⟨r, hr, h⟩ := Ev.loopE (fun k i (s : List Int) => laws_toIntS.l0 k l s i) l.length (fun _ s => s.length = l.length) (fun r => r.length = l.length)
    (fun s hs => ⟨s, hs, Ev.step (fun k => by rw [laws_toIntS.l0, if_neg (by omega)]) (Ev.now s)⟩)
    (fun i s hi hs => ⟨s.set i (rd l i), by simp [hs], fun r h => Ev.step (fun k => by
      rw [laws_toIntS.l0, if_pos (by omega), if_pos (by omega), if_pos (by omega), wrap_id _ (by omega) (by omega), Int.toNat_natCast]) h⟩) (List.replicate l.length 0) (by simp)
  refine ⟨r, hr, Ev.congr (fun k => ?_) h⟩
  unfold laws_toIntS.f
  rw [if_pos (by omega), if_pos (by omega), Int.toNat_natCast]
theorem toChart_ev (w h : Int) (l : List Int) (hl : l.length ≤ 2000000) : ∃ t : List Int, t.length = l.length ∧ Ev (fun k => laws_toChart.f k w h l) (w, h, t) := by
  obtain ⟨t, ht, hv⟩ := toInts_ev l hl
  exact ⟨t, ht, by unfold laws_toChart.f; exact Ev.bind hv (Ev.now _)⟩
def nb (w h r c : Int) : List Int := (if r > 0 then [r * w + c - w] else []) ++ ((if c > 0 then [r * w + c - 1] else []) ++ ((if c < w - 1 then [r * w + c + 1] else []) ++ (if r < h - 1 then [r * w + c + w] else [])))
theorem nb_length (w h r c : Int) : (nb w h r c).length ≤ 4 := by
  unfold nb
  split <;> split <;> split <;> split <;> simp
theorem place_split (w h p : Int) (hw : 1 ≤ w ∧ w ≤ 8) (hh : 1 ≤ h ∧ h ≤ 8) (h0 : 0 ≤ p) (h1 : p < w * h) : Int.tdiv p w = p / w ∧ Int.tmod p w = p % w ∧ p = p / w * w + p % w ∧ 0 ≤ p / w ∧ p / w < h ∧ 0 ≤ p % w ∧ p % w < w ∧ p / w * w ≤ 64 := by
  have a := Int.tdiv_eq_ediv_of_nonneg (b := w) h0
  have b := Int.tmod_eq_emod_of_nonneg (b := w) h0
  have c := Int.mul_ediv_add_emod p w
  have d := Int.emod_nonneg p (show w ≠ 0 by omega)
  have e := Int.emod_lt_of_pos p (show 0 < w by omega)
  have f : 0 ≤ p / w := Int.ediv_nonneg h0 (by omega)
  have g : p / w < h := Int.ediv_lt_of_lt_mul (by omega) (by rw [Int.mul_comm]; exact h1)
  have k : p / w * w ≤ 7 * 8 := Int.mul_le_mul (by omega) hw.2 (by omega) (by omega)
  rw [Int.mul_comm] at c
  omega
theorem nb_bd (w h r c : Int) (hw : 1 ≤ w ∧ w ≤ 8) (hh : 1 ≤ h ∧ h ≤ 8) (hr : 0 ≤ r ∧ r < h) (hc : 0 ≤ c ∧ c < w) : ∀ q ∈ nb w h r c, 0 ≤ q ∧ q < w * h := by
  intro q hq
  have m1 : 0 ≤ r * w := Int.mul_nonneg hr.1 (by omega)
  have m2 : r * w ≤ (h - 1) * w := Int.mul_le_mul_of_nonneg_right (by omega) (by omega)
  have m3 : (h - 1) * w + w = w * h := by rw [Int.sub_mul, Int.one_mul, Int.mul_comm]; omega
  unfold nb at hq
  rw [List.mem_append, List.mem_append, List.mem_append] at hq
  rcases hq with hq | hq | hq | hq
  · split at hq
    · rw [List.mem_singleton.1 hq]
      have : 1 * w ≤ r * w := Int.mul_le_mul_of_nonneg_right (by omega) (by omega)
      omega
    · cases hq
  · split at hq
    · rw [List.mem_singleton.1 hq]; omega
    · cases hq
  · split at hq
    · rw [List.mem_singleton.1 hq]; omega
    · cases hq
  · split at hq
    · rw [List.mem_singleton.1 hq]
      have : r * w ≤ (h - 2) * w := Int.mul_le_mul_of_nonneg_right (by omega) (by omega)
      have e : (h - 2) * w = (h - 1) * w - w := by rw [Int.sub_mul, Int.sub_mul, Int.one_mul]; omega
      omega
    · cases hq
theorem hasPlace_eq (w h : Int) (l : List Int) (hk : okChart w h l = true) (r c : Int) : impl_Chart_hasPlace.f w h l r c = some (rng r 0 (h - 1) && rng c 0 (w - 1)) := by
  obtain ⟨_, hw, hh, hlen, h64⟩ := okChart_iff w h l hk
  unfold impl_Chart_hasPlace.f
  simp only [in_eq, Option.bind_some]
  rw [wrap_id (h - 1) (by omega) (by omega), wrap_id (w - 1) (by omega) (by omega)]
  cases rng r 0 (h - 1) <;> rfl
theorem Next_ev (w h : Int) (l : List Int) (p : Int) (hw : 1 ≤ w ∧ w ≤ 8) (hh : 1 ≤ h ∧ h ≤ 8) (h0 : 0 ≤ p) (h1 : p < w * h) (h64 : w * h ≤ 64) : Ev (fun k => spec_l12Next.f k w h l p) (nb w h (p / w) (p % w)) := by
  obtain ⟨a, b, c, d, e, f, g, i⟩ := place_split w h p hw hh h0 h1
  refine ⟨2, fun k hk => ?_⟩
  obtain ⟨k, rfl⟩ : ∃ m, k = m + 2 := ⟨k - 2, by omega⟩
  dsimp only
  unfold spec_l12Next.f
  rw [if_neg (by omega), a, b]
  obtain ⟨r, hr⟩ : ∃ r, r = p / w := ⟨_, rfl⟩
  obtain ⟨q, hq⟩ : ∃ q, q = p % w := ⟨_, rfl⟩
  rw [← hr] at c d e i ⊢
  rw [← hq] at c f g ⊢
  rw [wrap_id r (by omega) (by omega)]
  simp only [Option.bind_some, spec_l12Next.j0, spec_l12Next.j1]
  rw [wrap_id (w - 1) (by omega) (by omega), wrap_id (h - 1) (by omega) (by omega), wrap_id (p - w) (by omega) (by omega), wrap_id (p - 1) (by omega) (by omega), wrap_id (p + 1) (by omega) (by omega), wrap_id (p + w) (by omega) (by omega)]
  unfold nb
  rw [← c]
  by_cases q1 : r > 0 <;> by_cases q2 : q > 0 <;> by_cases q3 : q < w - 1 <;> by_cases q4 : r < h - 1 <;> simp [q1, q2, q3, q4]
abbrev DD : List S82 := [⟨-1, 0⟩, ⟨0, -1⟩, ⟨0, 1⟩, ⟨1, 0⟩]
theorem besides_step (w h : Int) (l : List Int) (hk : okChart w h l = true) (p r c : Int) (s : List Int) (hs : s.length ≤ 10) (j : Nat) (hj : j < 4) (dr dc : Int) (e1 : (rd_T82 DD (j : Int)).f0 = dr) (e2 : (rd_T82 DD (j : Int)).f1 = dc) (b1 : -1 ≤ dr ∧ dr ≤ 1) (b2 : -1 ≤ dc ∧ dc ≤ 1) (hp : 0 ≤ p ∧ p ≤ 64) (hr : 0 ≤ r ∧ r ≤ 8) (hc : 0 ≤ c ∧ c ≤ 8) (v : List Int)
    (h1 : Ev (fun k => impl_Chart_besides.l0 k p (if (rng (r + dr) 0 (h - 1) && rng (c + dc) 0 (w - 1)) = true then s ++ [p + dr * w + dc] else s) r c DD 4 ((j : Int) + 1) w h l) v) : Ev (fun k => impl_Chart_besides.l0 k p s r c DD 4 (j : Int) w h l) v := by
  obtain ⟨_, hw, hh, hlen, h64⟩ := okChart_iff w h l hk
  have hd : -8 ≤ dr * w ∧ dr * w ≤ 8 := by
    rcases (by omega : dr = -1 ∨ dr = 0 ∨ dr = 1) with rfl | rfl | rfl <;> omega
  refine Ev.step (fun k => ?_) h1
  have el : (DD.length : Int) = 4 := rfl
  rw [impl_Chart_besides.l0, if_pos (by omega), if_pos (by omega), if_pos (by omega), e1, e2, wrap_id (r + dr) (by omega) (by omega), wrap_id (c + dc) (by omega) (by omega), hasPlace_eq w h l hk, Option.bind_some, wrap_id (dr * w) (by omega) (by omega), wrap_id (p + dr * w) (by omega) (by omega), wrap_id (p + dr * w + dc) (by omega) (by omega), wrap_id ((j : Int) + 1) (by omega) (by omega)]
  split
  · rw [if_pos (by omega)]
  · rfl
theorem besides_ev (w h : Int) (l : List Int) (hk : okChart w h l = true) (p : Int) (h0 : 0 ≤ p) (h1 : p < w * h) : Ev (fun k => impl_Chart_besides.f k w h l p) (nb w h (p / w) (p % w)) := by
  obtain ⟨_, hw, hh, hlen, h64⟩ := okChart_iff w h l hk
  obtain ⟨a, b, c, d, e, f, g, i⟩ := place_split w h p hw hh h0 h1
  unfold impl_Chart_besides.f
  simp only [if_neg (show ¬ w = 0 by omega), a, b, Option.bind_some]
  obtain ⟨r, hr⟩ : ∃ r, r = p / w := ⟨_, rfl⟩
  obtain ⟨q, hq⟩ : ∃ q, q = p % w := ⟨_, rfl⟩
  rw [← hr] at c d e i
  rw [← hq] at c f g
  rw [← hr, ← hq]
  rw [wrap_id r (by omega) (by omega)]
  have c1 : (rng (r + -1) 0 (h - 1) && rng (q + 0) 0 (w - 1)) = decide (r > 0) := by
    rw [Bool.eq_iff_iff, Bool.and_eq_true, rng_iff, rng_iff, decide_eq_true_iff]; omega
  have c2 : (rng (r + 0) 0 (h - 1) && rng (q + -1) 0 (w - 1)) = decide (q > 0) := by
    rw [Bool.eq_iff_iff, Bool.and_eq_true, rng_iff, rng_iff, decide_eq_true_iff]; omega
  have c3 : (rng (r + 0) 0 (h - 1) && rng (q + 1) 0 (w - 1)) = decide (q < w - 1) := by
    rw [Bool.eq_iff_iff, Bool.and_eq_true, rng_iff, rng_iff, decide_eq_true_iff]; omega
  have c4 : (rng (r + 1) 0 (h - 1) && rng (q + 0) 0 (w - 1)) = decide (r < h - 1) := by
    rw [Bool.eq_iff_iff, Bool.and_eq_true, rng_iff, rng_iff, decide_eq_true_iff]; omega
  refine besides_step w h l hk p r q [] (by simp) 0 (by omega) (-1) 0 rfl rfl (by omega) (by omega) (by omega) (by omega) (by omega) _ ?_
  refine besides_step w h l hk p r q _ (by split <;> simp) 1 (by omega) 0 (-1) rfl rfl (by omega) (by omega) (by omega) (by omega) (by omega) _ ?_
  refine besides_step w h l hk p r q _ (by split <;> split <;> simp) 2 (by omega) 0 1 rfl rfl (by omega) (by omega) (by omega) (by omega) (by omega) _ ?_
  refine besides_step w h l hk p r q _ (by split <;> split <;> split <;> simp) 3 (by omega) 1 0 rfl rfl (by omega) (by omega) (by omega) (by omega) (by omega) _ ?_
  rw [c1, c2, c3, c4]
  simp only [decide_eq_true_iff]
  refine Ev.step (f := fun _ => some _) (fun k => ?_) (Ev.now _)
  rw [impl_Chart_besides.l0, if_neg (by omega)]
  unfold nb
  rw [← c]
  have m1 : p + -1 * w + 0 = p - w := by omega
  have m2 : p + 0 * w + -1 = p - 1 := by omega
  have m3 : p + 0 * w + 1 = p + 1 := by omega
  have m4 : p + 1 * w + 0 = p + w := by omega
  rw [m1, m2, m3, m4]
  by_cases q1 : r > 0 <;> by_cases q2 : q > 0 <;> by_cases q3 : q < w - 1 <;> by_cases q4 : r < h - 1 <;> simp [q1, q2, q3, q4]
def negs (o : List Int) : Nat := o.countP fun v => decide (v < 0)
def stA (l : List Int) (i n q : Int) (s : List Int × List Int) : List Int × List Int := if rd s.1 q < 0 then (if rd l q = rd l i then (s.1.set q.toNat n, s.2 ++ [q]) else s) else s
def okA (L i : Nat) (n : Int) (s : List Int × List Int) : Prop :=
  s.1.length = L ∧ (∀ j : Nat, -1 ≤ s.1.getD j 0 ∧ s.1.getD j 0 ≤ n) ∧ (∀ j : Nat, j ≤ i → 0 ≤ s.1.getD j 0) ∧ s.2.length + negs s.1 ≤ 64 ∧ ∀ q ∈ s.2, 0 ≤ q ∧ q < (L : Int)
theorem negs_set (o : List Int) (q : Nat) (n : Int) (hq : q < o.length) (h : o.getD q 0 < 0) (hn : 0 ≤ n) : negs (o.set q n) + 1 = negs o := by
  have e : o.getD q 0 = o[q] := by rw [List.getD_eq_getElem?_getD, List.getElem?_eq_getElem hq]; rfl
  rw [e] at h
  have hp : 0 < negs o := List.countP_pos_iff.2 ⟨o[q], List.getElem_mem hq, by simpa using h⟩
  unfold negs at hp ⊢
  rw [List.countP_set hq, if_pos (by simpa using h), if_neg (by simp; omega)]
  omega
theorem okA_step (L i : Nat) (l : List Int) (n q : Int) (hn : 0 ≤ n) (h0 : 0 ≤ q) (h1 : q < (L : Int)) (s : List Int × List Int) (hs : okA L i n s) : okA L i n (stA l i n q s) := by
  unfold stA
  by_cases c : rd s.1 q < 0
  · rw [if_pos c]
    by_cases c2 : rd l q = rd l i
    · rw [if_pos c2]
      obtain ⟨a, b, d, e, f⟩ := hs
      have c' : s.1.getD q.toNat 0 < 0 := c
      have hz := negs_set s.1 q.toNat n (by omega) c' hn
      refine ⟨by rw [List.length_set]; exact a, fun j => ?_, fun j hj => ?_, ?_, fun x hx => ?_⟩
      · rw [getD_set]; have := b j; split <;> omega
      · rw [getD_set]; have := d j hj; split <;> omega
      · rw [List.length_append, List.length_singleton]; dsimp only; omega
      · rcases List.mem_append.1 hx with hx | hx
        · exact f x hx
        · rw [List.mem_singleton.1 hx]; exact ⟨h0, h1⟩
    · rw [if_neg c2]; exact hs
  · rw [if_neg c]; exact hs
theorem area_in (w h : Int) (l : List Int) (L : Nat) (hL : l.length = L) (h64 : L ≤ 64) (i : Nat) (hi : i < L) (n : Int) (hn : 0 ≤ n) (x : Int) (ns : List Int) (hns : ns.length ≤ 4) (hb : ∀ q ∈ ns, 0 ≤ q ∧ q < (L : Int)) (b : Int) (Post : List Int × Int → Prop)
    (hend : ∀ s, okA L i n s → ∃ r, Post r ∧ Ev (fun k => spec_l12Areas.l2 k s.1 n i s.2 (wrap64 (x + 1)) w h l) r ∧ Ev (fun k => impl_Chart_areas.l1 k s.1 n i s.2 (wrap64 (x + 1)) b i w h l) r)
    (s : List Int × List Int) (hs : okA L i n s) : ∃ r, Post r ∧ Ev (fun k => spec_l12Areas.l3 k s.1 n i s.2 x ns 0 w h l) r ∧ Ev (fun k => impl_Chart_areas.l2 k s.1 n i s.2 x b i ns (ns.length : Int) 0 w h l) r := by
  refine Ev.two (fun k j (s : List Int × List Int) => spec_l12Areas.l3 k s.1 n i s.2 x ns j w h l) (fun k j (s : List Int × List Int) => impl_Chart_areas.l2 k s.1 n i s.2 x b i ns (ns.length : Int) j w h l) ns.length (fun j s t => s = t ∧ okA L i n s) Post
    (fun s t hs => ?_) (fun j s t hj hs => .inr ?_) s s ⟨rfl, hs⟩
  · obtain ⟨rfl, hs⟩ := hs
    obtain ⟨r, hr, h1, h2⟩ := hend s hs
    exact ⟨r, hr, Ev.step (fun k => by rw [spec_l12Areas.l3, if_neg (by omega)]) h1, Ev.step (fun k => by rw [impl_Chart_areas.l2, if_neg (by omega)]) h2⟩
  · obtain ⟨rfl, hs⟩ := hs
    have hm : ns.getD j 0 ∈ ns := by
      rw [List.getD_eq_getElem?_getD, List.getElem?_eq_getElem hj]
      exact List.getElem_mem hj
    have hq := hb _ hm
    obtain ⟨q, hqe⟩ : ∃ q, q = ns.getD j 0 := ⟨_, rfl⟩
    have e0 : rd ns (j : Int) = q := by rw [hqe]; rfl
    rw [← hqe] at hq
    have hs2 := hs
    obtain ⟨o1, o2, o3, o4, o5⟩ := hs2
    refine ⟨stA l i n q s, _, ⟨rfl, okA_step L i l n q hn hq.1 hq.2 s hs⟩, fun r hr => Ev.step (fun k => ?_) hr, fun r hr => Ev.step (fun k => ?_) hr⟩
    · rw [spec_l12Areas.l3, if_pos (by omega), if_pos (by omega), e0, if_pos (by omega), if_pos (by omega), wrap_id ((j : Int) + 1) (by omega) (by omega)]
      unfold stA
      by_cases c : rd s.1 q < 0
      · rw [if_pos c, if_pos c, if_pos (by omega), if_pos (by omega), if_pos (by omega)]
        by_cases c2 : rd l q = rd l i
        · rw [if_pos c2, if_pos c2, if_pos (by omega)]
        · rw [if_neg c2, if_neg c2]
      · rw [if_neg c, if_neg c]
    · rw [impl_Chart_areas.l2, if_pos (by omega), if_pos (by omega), if_pos (by omega), e0, if_pos (by omega), if_pos (by omega), wrap_id ((j : Int) + 1) (by omega) (by omega)]
      unfold stA
      by_cases c : rd s.1 q < 0
      · rw [if_pos c, if_pos c, if_pos (by omega), if_pos (by omega), if_pos (by omega)]
        by_cases c2 : rd l q = rd l i
        · rw [if_pos c2, if_pos c2, if_pos (by omega)]
        · rw [if_neg c2, if_neg c2]
      · rw [if_neg c, if_neg c]
theorem area_while (w h : Int) (l : List Int) (hk : okChart w h l = true) (i : Nat) (hi : i < l.length) (n : Int) (hn : 0 ≤ n) (b : Int) (Post : List Int × Int → Prop)
    (hend : ∀ s, okA l.length i n s → ∃ r, Post r ∧ Ev (fun k => spec_l12Areas.l1 k s.1 (wrap64 (n + 1)) (wrap64 ((i : Int) + 1)) w h l) r ∧ Ev (fun k => impl_Chart_areas.l0 k s.1 (wrap64 (n + 1)) b (wrap64 ((i : Int) + 1)) w h l) r) (d : Nat) :
    ∀ (x : Nat) (s : List Int × List Int), x + d = 65 → okA l.length i n s → ∃ r, Post r ∧ Ev (fun k => spec_l12Areas.l2 k s.1 n i s.2 (x : Int) w h l) r ∧ Ev (fun k => impl_Chart_areas.l1 k s.1 n i s.2 (x : Int) b i w h l) r := by
  obtain ⟨_, hw, hh, hlen, h64⟩ := okChart_iff w h l hk
  induction d with
  | zero =>
    intro x s hx hs
    have hs2 := hs
    obtain ⟨o1, o2, o3, o4, o5⟩ := hs2
    obtain ⟨r, hr, h1, h2⟩ := hend s hs
    exact ⟨r, hr, Ev.step (fun k => by rw [spec_l12Areas.l2, if_neg (by omega)]) h1, Ev.step (fun k => by rw [impl_Chart_areas.l1, if_neg (by omega)]) h2⟩
  | succ d ih =>
    intro x s hx hs
    by_cases hlt : x < s.2.length
    · have hm : s.2.getD x 0 ∈ s.2 := by
        rw [List.getD_eq_getElem?_getD, List.getElem?_eq_getElem hlt]
        exact List.getElem_mem hlt
      have hs2 := hs
      obtain ⟨o1, o2, o3, o4, o5⟩ := hs2
      have hq := o5 _ hm
      obtain ⟨p, hp⟩ : ∃ p, p = s.2.getD x 0 := ⟨_, rfl⟩
      have e0 : rd s.2 (x : Int) = p := by rw [hp]; rfl
      rw [← hp] at hq
      have hsp := place_split w h p hw hh hq.1 (by omega)
      have hnb := nb_bd w h (p / w) (p % w) hw hh ⟨hsp.2.2.2.1, hsp.2.2.2.2.1⟩ ⟨hsp.2.2.2.2.2.1, hsp.2.2.2.2.2.2.1⟩
      obtain ⟨r, hr, h1, h2⟩ := area_in w h l l.length rfl h64 i hi n hn (x : Int) (nb w h (p / w) (p % w)) (nb_length _ _ _ _) (fun q hq => by have := hnb q hq; omega) b Post (fun s' hs' => by
        rw [wrap_id ((x : Int) + 1) (by omega) (by omega)]
        have e : ((x + 1 : Nat) : Int) = (x : Int) + 1 := by omega
        have := ih (x + 1) s' (by omega) hs'
        rw [e] at this
        exact this) s hs
      refine ⟨r, hr, Ev.step (f := fun k => (spec_l12Next.f k w h l p).bind _) (fun k => by rw [spec_l12Areas.l2, if_pos (by omega), if_pos (by omega), e0]) (Ev.bind (Next_ev w h l p hw hh hq.1 (by omega) (by omega)) h1), Ev.step (f := fun k => (impl_Chart_besides.f k w h l p).bind _) (fun k => by rw [impl_Chart_areas.l1, if_pos (by omega), if_pos (by omega), e0]) (Ev.bind (besides_ev w h l hk p hq.1 (by omega)) h2)⟩
    · obtain ⟨r, hr, h1, h2⟩ := hend s hs
      exact ⟨r, hr, Ev.step (fun k => by rw [spec_l12Areas.l2, if_neg (by omega)]) h1, Ev.step (fun k => by rw [impl_Chart_areas.l1, if_neg (by omega)]) h2⟩
def okO (L i : Nat) (s : List Int × Int) : Prop := s.1.length = L ∧ 0 ≤ s.2 ∧ s.2 ≤ (i : Int) ∧ (0 < i → 1 ≤ s.2) ∧ (∀ j : Nat, j < L → -1 ≤ s.1.getD j 0 ∧ s.1.getD j 0 < s.2) ∧ ∀ j : Nat, j < i → 0 ≤ s.1.getD j 0
def okAreas (L : Nat) (s : List Int × Int) : Prop := s.1.length = L ∧ 1 ≤ s.2 ∧ s.2 ≤ 64 ∧ ∀ j : Nat, j < L → 0 ≤ s.1.getD j 0 ∧ s.1.getD j 0 < s.2
theorem area_out (w h : Int) (l : List Int) (hk : okChart w h l = true) (d : Nat) : ∀ (i : Nat) (s : List Int × Int), i + d = l.length → okO l.length i s →
    ∃ r, okAreas l.length r ∧ Ev (fun k => spec_l12Areas.l1 k s.1 s.2 (i : Int) w h l) r ∧ Ev (fun k => impl_Chart_areas.l0 k s.1 s.2 (l.length : Int) (i : Int) w h l) r := by
  obtain ⟨_, hw, hh, hlen, h64⟩ := okChart_iff w h l hk
  have hpos : 1 * 1 ≤ w * h := Int.mul_le_mul hw.1 hh.1 (by omega) (by omega)
  induction d with
  | zero =>
    intro i s hi hs
    obtain ⟨o1, o2, o3, o4, o5, o6⟩ := hs
    refine ⟨s, ⟨o1, o4 (by omega), by omega, fun j hj => ⟨o6 j (by omega), (o5 j hj).2⟩⟩, Ev.step (f := fun _ => some s) (fun k => by rw [spec_l12Areas.l1, if_neg (by omega)]) (Ev.now _), Ev.step (f := fun _ => some s) (fun k => by rw [impl_Chart_areas.l0, if_neg (by omega)]) (Ev.now _)⟩
  | succ d ih =>
    intro i s hi hs
    have hs2 := hs
    obtain ⟨o1, o2, o3, o4, o5, o6⟩ := hs2
    have e0 : rd s.1 (i : Int) = s.1.getD i 0 := rfl
    have e : ((i + 1 : Nat) : Int) = (i : Int) + 1 := by omega
    by_cases c : rd s.1 (i : Int) ≥ 0
    · obtain ⟨r, hr, h1, h2⟩ := ih (i + 1) s (by omega) ⟨o1, o2, by omega, fun _ => by have := o5 i (by omega); omega, o5, fun j hj => by
        by_cases hji : j = i
        · rw [hji]; rw [e0] at c; exact c
        · exact o6 j (by omega)⟩
      rw [e] at h1 h2
      exact ⟨r, hr, Ev.step (fun k => by rw [spec_l12Areas.l1, if_pos (by omega), if_pos (by omega), if_pos c, wrap_id _ (by omega) (by omega)]) h1, Ev.step (fun k => by rw [impl_Chart_areas.l0, if_pos (by omega), if_pos (by omega), if_pos (by omega), if_pos c, wrap_id _ (by omega) (by omega)]) h2⟩
    · have hneg : negs (s.1.set i s.2) + 1 = negs s.1 := negs_set s.1 i s.2 (by omega) (by rw [e0] at c; omega) o2
      have hle : negs s.1 ≤ s.1.length := List.countP_le_length
      obtain ⟨r, hr, h1, h2⟩ := area_while w h l hk i (by omega) s.2 o2 (l.length : Int) (okAreas l.length) (fun s' hs' => by
        obtain ⟨a1, a2, a3, a4, a5⟩ := hs'
        rw [wrap_id (s.2 + 1) (by omega) (by omega), wrap_id ((i : Int) + 1) (by omega) (by omega)]
        have := ih (i + 1) (s'.1, s.2 + 1) (by omega) ⟨a1, by dsimp only; omega, by dsimp only; omega, fun _ => by dsimp only; omega, fun j hj => by have := a2 j; dsimp only; omega, fun j hj => a3 j (by omega)⟩
        rw [e] at this
        exact this) 65 0 (s.1.set i s.2, [(i : Int)]) (by omega) ⟨by rw [List.length_set]; exact o1, fun j => by
          rw [getD_set]
          split
          · omega
          · by_cases hj : j < l.length
            · have := o5 j hj; omega
            · rw [List.getD_eq_getElem?_getD, List.getElem?_eq_none (by omega)]; simp; omega, fun j hj => by
          rw [getD_set]
          split
          · omega
          · exact o6 j (by omega), by simp only [List.length_singleton]; omega, fun q hq => by rw [List.mem_singleton.1 hq]; omega⟩
      exact ⟨r, hr, Ev.step (fun k => by rw [spec_l12Areas.l1, if_pos (by omega), if_pos (by omega), if_neg c, Int.toNat_natCast]; rfl) h1, Ev.step (fun k => by rw [impl_Chart_areas.l0, if_pos (by omega), if_pos (by omega), if_pos (by omega), if_neg c, Int.toNat_natCast]; rfl) h2⟩
theorem areas_same (w h : Int) (l : List Int) (hk : okChart w h l = true) : ∃ r, okAreas l.length r ∧ Ev (fun k => spec_l12Areas.f k w h l) r ∧ Ev (fun k => impl_Chart_areas.f k w h l) r := by
  obtain ⟨_, hw, hh, hlen, h64⟩ := okChart_iff w h l hk
  obtain ⟨r, hr, h1, h2⟩ := area_out w h l hk l.length 0 (List.replicate l.length (-1), 0) (by omega) ⟨by simp, by simp, by simp, fun hh => absurd hh (by omega), fun j hj => by
    rw [List.getD_eq_getElem?_getD, List.getElem?_replicate, if_pos hj]; simp, fun j hj => absurd hj (by omega)⟩
  refine ⟨r, hr, ?_, ?_⟩
  · unfold spec_l12Areas.f
    refine Ev.foldK (fun k i (s : List Int) => spec_l12Areas.l0 k s i w h l) l.length (fun _ s => s ++ [-1]) (fun i s => s = List.replicate i (-1)) r (fun i s hi hs => ⟨by rw [hs, List.replicate_succ'], fun h1 => Ev.step (fun k => ?_) h1⟩) [] rfl ?_
    · have : s.length = i := by rw [hs]; simp
      rw [spec_l12Areas.l0, if_pos (by omega), if_pos (by omega), wrap_id _ (by omega) (by omega)]
    · have e : loopN (fun _ s => s ++ [-1]) l.length ([] : List Int) = List.replicate l.length (-1) := loopN_inv (fun _ s => s ++ [-1]) (fun i s => s = List.replicate i (-1)) l.length (fun i s _ hs => by rw [hs, List.replicate_succ']) [] rfl
      rw [e]
      exact Ev.step (fun k => by rw [spec_l12Areas.l0, if_neg (by omega)]; rfl) h1
  · unfold impl_Chart_areas.f slices_Repeat_int_int.f
    rw [if_pos ⟨rfl, by omega, by omega⟩]
    simp only [Option.bind_some, Int.toNat_natCast]
    have e : ((List.replicate l.length (([(-1)] : List Int).getD 0 0)).length : Int) = (l.length : Int) := by rw [List.length_replicate]
    rw [e]
    exact h2
theorem asc_ext : ∀ (a b : List Int), a.Pairwise (· < ·) → b.Pairwise (· < ·) → (∀ x, x ∈ a ↔ x ∈ b) → a = b
  | [], b, _, _, h => by
    cases b with
    | nil => rfl
    | cons y t => exact absurd ((h y).2 (List.mem_cons_self ..)) (by simp)
  | x :: a, [], _, _, h => absurd ((h x).1 (List.mem_cons_self ..)) (by simp)
  | x :: a, y :: b, ha, hb, h => by
    rw [List.pairwise_cons] at ha hb
    have hx := (h x).1 (List.mem_cons_self ..)
    have hy := (h y).2 (List.mem_cons_self ..)
    have e : x = y := by
      rcases List.mem_cons.1 hx with e | hx'
      · exact e
      · rcases List.mem_cons.1 hy with e | hy'
        · exact e.symm
        · have h1 := hb.1 x hx'
          have h2 := ha.1 y hy'
          omega
    subst e
    rw [asc_ext a b ha.2 hb.2 (fun z => ?_)]
    constructor
    · intro hz
      have h1 := ha.1 z hz
      rcases List.mem_cons.1 ((h z).1 (List.mem_cons_of_mem _ hz)) with e | h2
      · omega
      · exact h2
    · intro hz
      have h1 := hb.1 z hz
      rcases List.mem_cons.1 ((h z).2 (List.mem_cons_of_mem _ hz)) with e | h2
      · omega
      · exact h2
theorem compact_asc (zs : List Int) (hs : zs.Pairwise (· ≤ ·)) : (Lib.compact zs).Pairwise (· < ·) ∧ ∀ x, x ∈ Lib.compact zs ↔ x ∈ zs := by
  have hget : ∀ j, j < zs.length → zs.toArray[j]! = zs.getD j 0 := fun j hj => by
    rw [List.getD_eq_getElem?_getD, List.getElem?_eq_getElem hj]
    simp [hj]
  have hle : ∀ i j, i < j → j < zs.length → zs.toArray[i]! ≤ zs.toArray[j]! := fun i j hij hj => by
    have := List.pairwise_iff_getElem.1 hs i j (by omega) hj hij
    rw [hget i (by omega), hget j hj, List.getD_eq_getElem?_getD, List.getD_eq_getElem?_getD, List.getElem?_eq_getElem (by omega), List.getElem?_eq_getElem hj]
    exact this
  have key : ∀ m, m ≤ zs.length → (Lib.compactUpTo zs.toArray m).Pairwise (· < ·) ∧ (∀ x, x ∈ Lib.compactUpTo zs.toArray m → ∃ j, j < m ∧ zs.toArray[j]! = x) ∧ ∀ j, j < m → zs.toArray[j]! ∈ Lib.compactUpTo zs.toArray m := by
    intro m
    induction m with
    | zero => exact fun _ => ⟨List.Pairwise.nil, (fun x hx => by cases hx), fun j hj => absurd hj (by omega)⟩
    | succ m ih =>
      intro hm
      obtain ⟨h1, h2, h3⟩ := ih (by omega)
      rw [Lib.compactUpTo_succ]
      by_cases hk : m = 0 ∨ zs.toArray[m]! ≠ zs.toArray[m - 1]!
      · have hkeep : Lib.keeps zs.toArray m = true := by unfold Lib.keeps; exact decide_eq_true hk
        rw [hkeep, if_pos rfl]
        refine ⟨List.pairwise_append.2 ⟨h1, List.pairwise_singleton _ _, fun x hx y hy => ?_⟩, fun x hx => ?_, fun j hj => ?_⟩
        · rw [List.mem_singleton.1 hy]
          obtain ⟨j, hj, rfl⟩ := h2 x hx
          have hm0 : m ≠ 0 := by omega
          have hne : zs.toArray[m]! ≠ zs.toArray[m - 1]! := by rcases hk with h | h; exact absurd h hm0; exact h
          have ha := hle (m - 1) m (by omega) (by omega)
          by_cases e : j = m - 1
          · rw [e]; omega
          · have hb := hle j (m - 1) (by omega) (by omega)
            omega
        · rcases List.mem_append.1 hx with hx | hx
          · obtain ⟨j, hj, e⟩ := h2 x hx
            exact ⟨j, by omega, e⟩
          · exact ⟨m, by omega, (List.mem_singleton.1 hx).symm⟩
        · by_cases e : j = m
          · rw [e]; exact List.mem_append.2 (.inr (List.mem_singleton.2 rfl))
          · exact List.mem_append.2 (.inl (h3 j (by omega)))
      · have hkeep : Lib.keeps zs.toArray m = false := by unfold Lib.keeps; exact decide_eq_false hk
        rw [hkeep, if_neg (by decide), List.append_nil]
        refine ⟨h1, fun x hx => ?_, fun j hj => ?_⟩
        · obtain ⟨j, hj, e⟩ := h2 x hx
          exact ⟨j, by omega, e⟩
        · by_cases e : j = m
          · have hm0 : m ≠ 0 := fun h => hk (.inl h)
            have heq : zs.toArray[m]! = zs.toArray[m - 1]! := Classical.byContradiction fun h => hk (.inr h)
            rw [e, heq]
            exact h3 (m - 1) (by omega)
          · exact h3 j (by omega)
  obtain ⟨h1, h2, h3⟩ := key zs.length (Nat.le_refl _)
  refine ⟨h1, fun x => ⟨fun hx => ?_, fun hx => ?_⟩⟩
  · obtain ⟨j, hj, e⟩ := h2 x hx
    rw [← e, hget j hj, List.getD_eq_getElem?_getD, List.getElem?_eq_getElem hj]
    exact List.getElem_mem hj
  · obtain ⟨j, hj, rfl⟩ := List.getElem_of_mem hx
    have := h3 j hj
    rw [hget j hj, List.getD_eq_getElem?_getD, List.getElem?_eq_getElem hj] at this
    exact this
theorem sortCompact (lst out : List Int) (ho : out.Pairwise (· < ·)) (hm : ∀ x, x ∈ out ↔ x ∈ lst) : Lib.compact (lst.mergeSort fun x y => decide (x ≤ y)) = out := by
  have hs : (lst.mergeSort fun x y => decide (x ≤ y)).Pairwise (· ≤ ·) := by
    have := List.pairwise_mergeSort (le := fun x y : Int => decide (x ≤ y)) (fun a b c h1 h2 => by simp only [decide_eq_true_iff] at *; omega) (fun a b => by simp only [Bool.or_eq_true, decide_eq_true_iff]; omega) lst
    exact this.imp (fun h => by simpa using h)
  obtain ⟨h1, h2⟩ := compact_asc _ hs
  refine asc_ext _ _ h1 ho (fun x => ?_)
  rw [h2, List.mem_mergeSort, hm]
theorem has_ev (l : List Int) (v : Int) (hl : l.length ≤ 2000000) : Ev (fun k => spec_l1Has.f k l v) (decide (v ∈ l)) := by
  unfold spec_l1Has.f
  have key : ∀ d i : Nat, i + d = l.length → Ev (fun k => spec_l1Has.l0 k l v (i : Int)) (decide (v ∈ l.drop i)) := by
    intro d
    induction d with
    | zero =>
      intro i hi
      rw [List.drop_of_length_le (by omega)]
      exact Ev.step (f := fun _ => some false) (fun k => by rw [spec_l1Has.l0, if_neg (by omega)]) (Ev.now _)
    | succ d ih =>
      intro i hi
      have e0 : rd l (i : Int) = l[i]'(by omega) := by
        show l.getD ((i : Int)).toNat 0 = _
        rw [Int.toNat_natCast, List.getD_eq_getElem?_getD, List.getElem?_eq_getElem (by omega)]
        rfl
      rw [List.drop_eq_getElem_cons (by omega)]
      by_cases c : l[i]'(by omega) = v
      · rw [decide_eq_true (List.mem_cons.2 (.inl c.symm))]
        exact Ev.step (f := fun _ => some true) (fun k => by rw [spec_l1Has.l0, if_pos (by omega), if_pos (by omega), e0, if_pos c]) (Ev.now _)
      · have h1 := ih (i + 1) (by omega)
        have e : ((i + 1 : Nat) : Int) = (i : Int) + 1 := by omega
        rw [e] at h1
        have e2 : decide (v ∈ l[i]'(by omega) :: l.drop (i + 1)) = decide (v ∈ l.drop (i + 1)) := by
          rw [decide_eq_decide, List.mem_cons]
          exact ⟨fun h => h.resolve_left (fun h => c h.symm), .inr⟩
        rw [e2]
        exact Ev.step (fun k => by rw [spec_l1Has.l0, if_pos (by omega), if_pos (by omega), e0, if_neg c, wrap_id _ (by omega) (by omega)]) h1
  exact key l.length 0 (by omega)
theorem put_ev (l : List Int) (v : Int) (hl : l.length ≤ 2000000) (ha : l.Pairwise (· < ·)) (hv : v ∉ l) : ∃ p : List Int, (p.Pairwise (· < ·) ∧ p.length = l.length + 1 ∧ ∀ x, x ∈ p ↔ x = v ∨ x ∈ l) ∧ Ev (fun k => spec_l1Put.f k l v) p := by
  unfold spec_l1Put.f
  have fin : ∀ i : Nat, i ≤ l.length → (∀ j (h : j < l.length), j < i → l[j] < v) → (∀ h : i < l.length, v < l[i]) → (l.take i ++ [v] ++ l.drop i).Pairwise (· < ·) ∧ (l.take i ++ [v] ++ l.drop i).length = l.length + 1 ∧ ∀ x, x ∈ l.take i ++ [v] ++ l.drop i ↔ x = v ∨ x ∈ l := by
    intro i hi h1 h2
    have ht : ∀ x ∈ l.take i, x < v := fun x hx => by
      obtain ⟨j, hj, rfl⟩ := List.getElem_of_mem hx
      rw [List.length_take] at hj
      rw [List.getElem_take]
      exact h1 j (by omega) (by omega)
    have hd : ∀ x ∈ l.drop i, v < x := fun x hx => by
      obtain ⟨j, hj, rfl⟩ := List.getElem_of_mem hx
      rw [List.length_drop] at hj
      rw [List.getElem_drop]
      have := h2 (by omega)
      by_cases e : j = 0
      · subst e; simpa using this
      · have := List.pairwise_iff_getElem.1 ha i (i + j) (by omega) (by omega) (by omega)
        omega
    refine ⟨List.pairwise_append.2 ⟨List.pairwise_append.2 ⟨ha.sublist (List.take_sublist _ _), List.pairwise_singleton _ _, fun x hx y hy => by rw [List.mem_singleton.1 hy]; exact ht x hx⟩, ha.sublist (List.drop_sublist _ _), fun x hx y hy => ?_⟩, ?_, fun x => ?_⟩
    · have h3 := hd y hy
      rcases List.mem_append.1 hx with hx | hx
      · have := ht x hx; omega
      · rw [List.mem_singleton.1 hx]; exact h3
    · simp only [List.length_append, List.length_take, List.length_drop, List.length_singleton]; omega
    · rw [List.mem_append, List.mem_append, List.mem_singleton]
      constructor
      · rintro ((h | h) | h)
        · exact .inr (List.mem_of_mem_take h)
        · exact .inl h
        · exact .inr (List.mem_of_mem_drop h)
      · rintro (h | h)
        · exact .inl (.inr h)
        · rw [← List.take_append_drop i l] at h
          rcases List.mem_append.1 h with h | h
          · exact .inl (.inl h)
          · exact .inr h
  have key : ∀ d i : Nat, i + d = l.length → (∀ j (h : j < l.length), j < i → l[j] < v) → ∃ p : List Int, (p.Pairwise (· < ·) ∧ p.length = l.length + 1 ∧ ∀ x, x ∈ p ↔ x = v ∨ x ∈ l) ∧ Ev (fun k => spec_l1Put.l0 k l v (i : Int)) p := by
    intro d
    induction d with
    | zero =>
      intro i hi h1
      refine ⟨_, fin i (by omega) h1 (fun h => absurd h (by omega)), Ev.step (f := fun _ => some (l.take i ++ [v] ++ l.drop i)) (fun k => ?_) (Ev.now _)⟩
      rw [spec_l1Put.l0, if_neg (by omega), Option.bind_some, if_pos (by omega), if_pos (by omega), if_pos (by simp; omega), Option.bind_some, Option.bind_some, if_pos (by simp; omega), Option.bind_some, if_pos (by simp; omega), Int.toNat_natCast, List.nil_append]
    | succ d ih =>
      intro i hi h1
      have hlt : i < l.length := by omega
      have e0 : rd l (i : Int) = l[i] := by
        show l.getD ((i : Int)).toNat 0 = _
        rw [Int.toNat_natCast, List.getD_eq_getElem?_getD, List.getElem?_eq_getElem hlt]
        rfl
      by_cases c : l[i] < v
      · obtain ⟨p, hp, h2⟩ := ih (i + 1) (by omega) (fun j h hj => by
          by_cases e : j = i
          · subst e; exact c
          · exact h1 j h (by omega))
        have e : ((i + 1 : Nat) : Int) = (i : Int) + 1 := by omega
        rw [e] at h2
        exact ⟨p, hp, Ev.step (fun k => by rw [spec_l1Put.l0, if_pos (by omega), if_pos (by omega), e0, if_pos c, wrap_id _ (by omega) (by omega)]) h2⟩
      · have hne : l[i] ≠ v := fun h => hv (h ▸ List.getElem_mem hlt)
        refine ⟨_, fin i (by omega) h1 (fun _ => by omega), Ev.step (f := fun _ => some (l.take i ++ [v] ++ l.drop i)) (fun k => ?_) (Ev.now _)⟩
        rw [spec_l1Put.l0, if_pos (by omega), if_pos (by omega), e0, if_neg c, if_neg hne, Option.bind_some, if_pos (by omega), if_pos (by simp; omega), Option.bind_some, Option.bind_some, if_pos (by simp; omega), Option.bind_some, if_pos (by simp; omega), Int.toNat_natCast, List.nil_append]
  exact key l.length 0 (by omega) (fun j _ h => absurd h (by omega))
def relN (B : Nat) (o s : List Int) : Prop := o.Pairwise (· < ·) ∧ (∀ x, x ∈ o ↔ x ∈ s) ∧ o.length ≤ s.length ∧ s.length ≤ B
theorem neigh_in (w h : Int) (l : List Int) (a : List Int) (ar : Int) (i : Nat) (hi : i < a.length) (h64 : a.length ≤ 64) (hia : a.getD i 0 = ar) (ns : List Int) (hns : ns.length ≤ 4) (hb : ∀ q ∈ ns, 0 ≤ q ∧ q < (a.length : Int)) (b : Int) (B : Nat) (hB : B ≤ 1000) (Post : List Int × Bool → Prop)
    (hend : ∀ o s, relN (B + 4) o s → ∃ r, Post r ∧ Ev (fun k => spec_AreaNeighbors.l0 k ar o a (wrap64 ((i : Int) + 1)) w h l) r ∧ Ev (fun k => impl_AreaNeighbors.l0 k ar a s b (wrap64 ((i : Int) + 1)) w h l) r)
    (o s : List Int) (hs : relN B o s) : ∃ r, Post r ∧ Ev (fun k => spec_AreaNeighbors.l1 k ar o a (i : Int) ns 0 w h l) r ∧ Ev (fun k => impl_AreaNeighbors.l1 k ar a s (i : Int) b (i : Int) ns (ns.length : Int) 0 w h l) r := by
  have key : ∀ d j : Nat, ∀ o s, j + d = ns.length → relN (B + j) o s → ∃ r, Post r ∧ Ev (fun k => spec_AreaNeighbors.l1 k ar o a (i : Int) ns (j : Int) w h l) r ∧ Ev (fun k => impl_AreaNeighbors.l1 k ar a s (i : Int) b (i : Int) ns (ns.length : Int) (j : Int) w h l) r := by
    intro d
    induction d with
    | zero =>
      intro j o s hj hr
      obtain ⟨r1, r2, r3, r4⟩ := hr
      obtain ⟨r, hp, h1, h2⟩ := hend o s ⟨r1, r2, r3, by omega⟩
      exact ⟨r, hp, Ev.step (fun k => by rw [spec_AreaNeighbors.l1, if_neg (by omega)]) h1, Ev.step (fun k => by rw [impl_AreaNeighbors.l1, if_neg (by omega)]) h2⟩
    | succ d ih =>
      intro j o s hj hr
      obtain ⟨r1, r2, r3, r4⟩ := hr
      have hm : ns.getD j 0 ∈ ns := by
        rw [List.getD_eq_getElem?_getD, List.getElem?_eq_getElem (by omega)]
        exact List.getElem_mem (by omega)
      have hq := hb _ hm
      obtain ⟨q, hqe⟩ : ∃ q, q = ns.getD j 0 := ⟨_, rfl⟩
      have e0 : rd ns (j : Int) = q := by rw [hqe]; rfl
      rw [← hqe] at hq
      have ei : rd a (i : Int) = ar := hia
      have e : ((j + 1 : Nat) : Int) = (j : Int) + 1 := by omega
      obtain ⟨v, hv⟩ : ∃ v, v = rd a q := ⟨_, rfl⟩
      have hspec : ∀ k, spec_AreaNeighbors.l1 (k + 1) ar o a (i : Int) ns (j : Int) w h l = if v = ar then spec_AreaNeighbors.l1 k ar o a (i : Int) ns ((j : Int) + 1) w h l else (spec_l1Has.f k o v).bind fun t => if t = true then spec_AreaNeighbors.l1 k ar o a (i : Int) ns ((j : Int) + 1) w h l else (spec_l1Put.f k o v).bind fun p => spec_AreaNeighbors.l1 k ar p a (i : Int) ns ((j : Int) + 1) w h l := fun k => by
        rw [spec_AreaNeighbors.l1, if_pos (by omega), if_pos (by omega), e0, if_pos (by omega), if_pos (by omega), ← hv, wrap_id ((j : Int) + 1) (by omega) (by omega)]
      have himpl : ∀ k, impl_AreaNeighbors.l1 (k + 1) ar a s (i : Int) b (i : Int) ns (ns.length : Int) (j : Int) w h l = if v = ar then impl_AreaNeighbors.l1 k ar a s (i : Int) b (i : Int) ns (ns.length : Int) ((j : Int) + 1) w h l else impl_AreaNeighbors.l1 k ar a (s ++ [v]) (i : Int) b (i : Int) ns (ns.length : Int) ((j : Int) + 1) w h l := fun k => by
        rw [impl_AreaNeighbors.l1, if_pos (by omega), if_pos (by omega), if_pos (by omega), if_pos (by omega), if_pos (by omega), ei, if_pos rfl, e0, if_pos (by omega), if_pos (by omega), ← hv, wrap_id ((j : Int) + 1) (by omega) (by omega), if_pos (show s.length < 17592186044416 by omega)]
      by_cases c : v = ar
      · obtain ⟨r, hp, h1, h2⟩ := ih (j + 1) o s (by omega) ⟨r1, r2, r3, by omega⟩
        rw [e] at h1 h2
        exact ⟨r, hp, Ev.step (fun k => by rw [hspec, if_pos c]) h1, Ev.step (fun k => by rw [himpl, if_pos c]) h2⟩
      · have hhas := has_ev o v (by omega)
        by_cases hin : v ∈ o
        · obtain ⟨r, hp, h1, h2⟩ := ih (j + 1) o (s ++ [v]) (by omega) ⟨r1, fun x => by
            rw [List.mem_append, List.mem_singleton, r2 x]
            exact ⟨.inl, fun h => h.elim id (fun h => by rw [h]; exact (r2 v).1 hin)⟩, by rw [List.length_append, List.length_singleton]; omega, by rw [List.length_append, List.length_singleton]; omega⟩
          rw [e] at h1 h2
          rw [decide_eq_true hin] at hhas
          exact ⟨r, hp, Ev.step (fun k => by rw [hspec, if_neg c]) (Ev.bind hhas (by simp only [if_true]; exact h1)), Ev.step (fun k => by rw [himpl, if_neg c]) h2⟩
        · obtain ⟨p, ⟨p1, p2, p3⟩, hput⟩ := put_ev o v (by omega) r1 hin
          obtain ⟨r, hp, h1, h2⟩ := ih (j + 1) p (s ++ [v]) (by omega) ⟨p1, fun x => by
            rw [List.mem_append, List.mem_singleton, p3 x, r2 x]
            exact ⟨fun h => h.elim .inr .inl, fun h => h.elim .inr .inl⟩, by rw [List.length_append, List.length_singleton]; omega, by rw [List.length_append, List.length_singleton]; omega⟩
          rw [e] at h1 h2
          rw [decide_eq_false hin] at hhas
          exact ⟨r, hp, Ev.step (fun k => by rw [hspec, if_neg c]) (Ev.bind hhas (by simp only [Bool.false_eq_true, if_false]; exact Ev.bind hput h1)), Ev.step (fun k => by rw [himpl, if_neg c]) h2⟩
  exact key ns.length 0 o s (by omega) hs
theorem neigh_skip (w h : Int) (l : List Int) (a : List Int) (ar : Int) (i : Nat) (hi : i < a.length) (h64 : a.length ≤ 64) (hia : ¬ a.getD i 0 = ar) (ns : List Int) (hns : ns.length ≤ 4) (b : Int) (s : List Int) (r : List Int × Bool) (hr : Ev (fun k => impl_AreaNeighbors.l0 k ar a s b (wrap64 ((i : Int) + 1)) w h l) r) : Ev (fun k => impl_AreaNeighbors.l1 k ar a s (i : Int) b (i : Int) ns (ns.length : Int) 0 w h l) r := by
  refine Ev.foldK (fun k j (_ : Unit) => impl_AreaNeighbors.l1 k ar a s (i : Int) b (i : Int) ns (ns.length : Int) j w h l) ns.length (fun _ u => u) (fun _ _ => True) r (fun j _ hj _ => ⟨trivial, fun h1 => Ev.step (fun k => ?_) h1⟩) () trivial (Ev.step (fun k => by rw [impl_AreaNeighbors.l1, if_neg (by omega)]) hr)
  have ei : rd a (i : Int) = a.getD i 0 := rfl
  rw [impl_AreaNeighbors.l1, if_pos (by omega), if_pos (by omega), if_pos (by omega), if_pos (by omega), if_pos (by omega), ei, if_neg hia, wrap_id ((j : Int) + 1) (by omega) (by omega)]
theorem neigh_out (w h : Int) (l : List Int) (hk : okChart w h l = true) (a : List Int) (hal : a.length = l.length) (ar : Int) (d : Nat) : ∀ (i : Nat) (o s : List Int), i + d = a.length → relN (4 * i) o s →
    ∃ r : List Int × Bool, r.1.length ≤ 256 ∧ Ev (fun k => spec_AreaNeighbors.l0 k ar o a (i : Int) w h l) r ∧ Ev (fun k => impl_AreaNeighbors.l0 k ar a s (a.length : Int) (i : Int) w h l) r := by
  obtain ⟨_, hw, hh, hlen, h64⟩ := okChart_iff w h l hk
  induction d with
  | zero =>
    intro i o s hi hr
    obtain ⟨r1, r2, r3, r4⟩ := hr
    have hsort : slices_Sort_int.f s = some (s.mergeSort fun x y => decide (x ≤ y)) := by unfold slices_Sort_int.f; rw [if_pos (by omega)]
    have hcomp : slices_Compact_int.f (s.mergeSort fun x y => decide (x ≤ y)) = some o := by
      unfold slices_Compact_int.f
      rw [if_pos (by rw [List.length_mergeSort]; omega), sortCompact s o r1 r2]
    exact ⟨(o, true), by dsimp only; omega, Ev.step (f := fun _ => some (o, true)) (fun k => by rw [spec_AreaNeighbors.l0, if_neg (by omega)]) (Ev.now _), Ev.step (f := fun _ => some (o, true)) (fun k => by rw [impl_AreaNeighbors.l0, if_neg (by omega), hsort, Option.bind_some, hcomp, Option.bind_some]) (Ev.now _)⟩
  | succ d ih =>
    intro i o s hi hr
    have hsp := place_split w h (i : Int) hw hh (by omega) (by omega)
    have hnb := nb_bd w h ((i : Int) / w) ((i : Int) % w) hw hh ⟨hsp.2.2.2.1, hsp.2.2.2.2.1⟩ ⟨hsp.2.2.2.2.2.1, hsp.2.2.2.2.2.2.1⟩
    have hN := Next_ev w h l (i : Int) hw hh (by omega) (by omega) (by omega)
    have hB := besides_ev w h l hk (i : Int) (by omega) (by omega)
    have e : ((i + 1 : Nat) : Int) = (i : Int) + 1 := by omega
    have ei : rd a (i : Int) = a.getD i 0 := rfl
    by_cases c : a.getD i 0 = ar
    · obtain ⟨r, hp, h1, h2⟩ := neigh_in w h l a ar i (by omega) (by omega) c (nb w h ((i : Int) / w) ((i : Int) % w)) (nb_length _ _ _ _) (fun q hq => by have := hnb q hq; omega) (a.length : Int) (4 * i) (by omega) (fun r => r.1.length ≤ 256) (fun o s hr => by
        have := ih (i + 1) o s (by omega) hr
        rw [e] at this
        rw [wrap_id ((i : Int) + 1) (by omega) (by omega)]
        exact this) o s hr
      exact ⟨r, hp, Ev.step (f := fun k => (spec_l12Next.f k w h l (i : Int)).bind _) (fun k => by rw [spec_AreaNeighbors.l0, if_pos (by omega), if_pos (by omega), ei, if_pos c]) (Ev.bind hN h1), Ev.step (f := fun k => (impl_Chart_besides.f k w h l (i : Int)).bind _) (fun k => by rw [impl_AreaNeighbors.l0, if_pos (by omega)]) (Ev.bind hB h2)⟩
    · obtain ⟨r1, r2, r3, r4⟩ := hr
      obtain ⟨r, hp, h1, h2⟩ := ih (i + 1) o s (by omega) ⟨r1, r2, r3, by omega⟩
      rw [e] at h1 h2
      refine ⟨r, hp, Ev.step (fun k => by rw [spec_AreaNeighbors.l0, if_pos (by omega), if_pos (by omega), ei, if_neg c, wrap_id ((i : Int) + 1) (by omega) (by omega)]) h1, Ev.step (f := fun k => (impl_Chart_besides.f k w h l (i : Int)).bind _) (fun k => by rw [impl_AreaNeighbors.l0, if_pos (by omega)]) (Ev.bind hB (neigh_skip w h l a ar i (by omega) (by omega) c _ (nb_length _ _ _ _) _ s r ?_))⟩
      rw [wrap_id ((i : Int) + 1) (by omega) (by omega)]
      exact h2
theorem AreaNeighbors_same (w h : Int) (l : List Int) (ar : Int) (hl : l.length ≤ 2000000) : ∃ r : List Int × Bool, r.1.length ≤ 256 ∧ Ev (fun k => spec_AreaNeighbors.f k w h l ar) r ∧ Ev (fun k => impl_AreaNeighbors.f k w h l ar) r := by
  unfold spec_AreaNeighbors.f impl_AreaNeighbors.f
  simp only [IsChart_eq, Option.bind_some]
  cases hk : okChart w h l with
  | false => exact ⟨([], false), by simp, Ev.bind (l2Good_ev _ _ _ hl) (by simp only [hk, Bool.false_eq_true, if_false]; exact Ev.now _), by simp only [Bool.false_eq_true, if_false]; exact Ev.now _⟩
  | true =>
    obtain ⟨⟨a, n⟩, ⟨o1, o2, o3, o4⟩, ha, hb⟩ := areas_same w h l hk
    dsimp only at o1 o2 o3 o4
    have w1 : wrap64 (n - 1) = n - 1 := wrap_id _ (by omega) (by omega)
    cases hc : rng ar 0 (n - 1) with
    | false =>
      refine ⟨([], false), by simp, Ev.bind (l2Good_ev _ _ _ hl) ?_, ?_⟩
      · simp only [hk, if_true]
        refine Ev.bind ha ?_
        simp only [w1, l1In_eq, hc, Option.bind_some, Bool.false_eq_true, if_false]
        exact Ev.now _
      · simp only [if_true]
        refine Ev.bind hb ?_
        simp only [w1, in_eq, hc, Option.bind_some, Bool.false_eq_true, if_false]
        exact Ev.now _
    | true =>
      obtain ⟨r, hr, h1, h2⟩ := neigh_out w h l hk a o1 ar a.length 0 [] [] (by omega) ⟨List.Pairwise.nil, fun x => Iff.rfl, Nat.le_refl _, Nat.zero_le _⟩
      refine ⟨r, hr, Ev.bind (l2Good_ev _ _ _ hl) ?_, ?_⟩
      · simp only [hk, if_true]
        refine Ev.bind ha ?_
        simp only [w1, l1In_eq, hc, Option.bind_some, if_true]
        exact h1
      · simp only [if_true]
        refine Ev.bind hb ?_
        simp only [w1, in_eq, hc, Option.bind_some, if_true]
        exact h2
theorem eqInts_ev (t : List Int) (ht : t.length ≤ 2000000) : Ev (fun k => laws_eqIntS.f k t t) true := by
  refine Ev.congr (f := fun k => laws_eqIntS.l0 k t t 0) (fun k => by unfold laws_eqIntS.f; rw [if_pos rfl]) ?_
  obtain ⟨r, hr, h⟩ := Ev.loopE (fun k i (_ : Unit) => laws_eqIntS.l0 k t t i) t.length (fun _ _ => True) (fun r => r = true)
    (fun s _ => ⟨true, rfl, Ev.step (fun k => by rw [laws_eqIntS.l0, if_neg (by omega)]) (Ev.now true)⟩)
    (fun i s hi _ => ⟨(), trivial, fun r h => Ev.step (fun k => by
      rw [laws_eqIntS.l0, if_pos (by omega), if_pos (by omega), if_pos (by omega), if_pos rfl, wrap_id _ (by omega) (by omega)]) h⟩) () trivial
  subst hr
  exact h
theorem eqChart_ev (w h : Int) (t : List Int) (hl : t.length ≤ 2000000) : Ev (fun k => laws_eqChart.f k w h t w h t) true := by
  unfold laws_eqChart.f
  simp only [if_true]
  exact Ev.bind (eqInts_ev t hl) (by simp only [if_true]; exact Ev.now _)
theorem held_ev (t : List Int) (ht : t.length ≤ 2000000) (h1 : ∀ j : Nat, j < t.length → t.getD j 0 = 1 + (j : Int)) : Ev (fun k => laws_heldIntS.f k t 1) (1 + (t.length : Int)) := by
  unfold laws_heldIntS.f
  obtain ⟨r, hr, h⟩ := Ev.loopE (fun k i (q : Int) => laws_heldIntS.l0 k t q i) t.length (fun i q => q = 1 + (i : Int)) (fun r => r = 1 + (t.length : Int))
    (fun s hs => ⟨s, hs, Ev.step (fun k => by rw [laws_heldIntS.l0, if_neg (by omega)]) (Ev.now s)⟩)
    (fun i s hi hs => ⟨s + 1, by omega, fun r h => Ev.step (fun k => by
      have hx : rd t (i : Int) = s := by rw [hs]; exact h1 i hi
      rw [laws_heldIntS.l0, if_pos (by omega), if_pos (by omega), if_pos hx, wrap_id _ (by omega) (by omega), wrap_id _ (by omega) (by omega)]) h⟩) 1 (by omega)
  subst hr
  exact h
theorem mark_ev (t : List Int) (ht : t.length ≤ 2000000) : ∃ t' : List Int, Ev (fun k => laws_markIntS.f k t 1) (1 + (t.length : Int), t') ∧ Ev (fun k => laws_heldIntS.f k t' 1) (1 + (t.length : Int)) := by
  unfold laws_markIntS.f
  obtain ⟨⟨m, t'⟩, ⟨hm, hl, hj⟩, h⟩ := Ev.loopE (fun k i (q : Int × List Int) => laws_markIntS.l0 k q.2 q.1 i) t.length
    (fun i q => q.1 = 1 + (i : Int) ∧ q.2.length = t.length ∧ ∀ j : Nat, j < i → q.2.getD j 0 = 1 + (j : Int)) (fun r => r.1 = 1 + (t.length : Int) ∧ r.2.length = t.length ∧ ∀ j : Nat, j < t.length → r.2.getD j 0 = 1 + (j : Int))
    (fun s hs => ⟨s, hs, Ev.step (fun k => by rw [laws_markIntS.l0, if_neg (by omega)]) (Ev.now s)⟩)
    (fun i s hi hs => ⟨(s.1 + 1, s.2.set i s.1), ⟨by have := hs.1; simp only; omega, by simp [hs.2.1], fun j hj => by
        have h2 := hs.2.1
        simp only [getD_set]
        by_cases e : i = j
        · subst e; rw [if_pos ⟨rfl, by omega⟩]; exact hs.1
        · rw [if_neg (fun h => e h.1)]; exact hs.2.2 j (by omega)⟩, fun r h => Ev.step (fun k => by
      have h1 := hs.1
      have h2 := hs.2.1
      rw [laws_markIntS.l0, if_pos (by omega), if_pos (by omega), wrap_id _ (by omega) (by omega), wrap_id _ (by omega) (by omega), Int.toNat_natCast]) h⟩) (1, t) ⟨by simp, rfl, fun j hj => absurd hj (by omega)⟩
  simp only at hm hl hj
  subst hm
  refine ⟨t', h, ?_⟩
  have := held_ev t' (by omega) (fun j hjj => hj j (by omega))
  rw [hl] at this
  exact this
theorem markChart_ev (w h : Int) (t : List Int) (hl : t.length ≤ 2000000) : ∃ (m : Int) (t' : List Int), 0 ≤ m ∧ Ev (fun k => laws_markChart.f k w h t 1) (m, t') := by
  obtain ⟨t', h1, _⟩ := mark_ev t hl
  exact ⟨1 + (t.length : Int), t', by omega, by unfold laws_markChart.f; exact Ev.bind h1 (Ev.now _)⟩
theorem FnExactAreaNeighbors (a0_0 : Int) (a0_1 : Int) (l0_2 : List (Int)) (a1 : Int) (q_a0_0 : (Lit.int .i64 a0_0).wf = true) (q_a0_1 : (Lit.int .i64 a0_1).wf = true) (q_l0_2 : (l0_2.length ≤ maxLen ∧ ∀ q ∈ l0_2, (Lit.int .i64 q).wf = true)) (q_a1 : (Lit.int .i64 a1).wf = true) : ∃ k, laws_FnExactAreaNeighbors.f k a0_0 a0_1 l0_2 a1 = some true := by
  by_cases hl : (l0_2.length : Int) ≤ 1048576
  · obtain ⟨t, ht, K1, h1⟩ := toChart_ev a0_0 a0_1 l0_2 (by omega)
    obtain ⟨r, hr, ⟨K2, h2⟩, K3, h3⟩ := AreaNeighbors_same a0_0 a0_1 t a1 (by omega)
    obtain ⟨K4, h4⟩ := eqChart_ev a0_0 a0_1 t (by omega)
    obtain ⟨m, t', hm, K5, h5⟩ := markChart_ev a0_0 a0_1 t (by omega)
    obtain ⟨K6, h6⟩ := eqInts_ev r.1 (by omega)
    obtain ⟨g', ⟨K7, h7⟩, K8, h8⟩ := mark_ev r.1 (by omega)
    obtain ⟨N, hN⟩ : ∃ N, N = K1 + K2 + K3 + K4 + K5 + K6 + K7 + K8 := ⟨_, rfl⟩
    replace h1 := fun j => h1 (N + j) (by omega)
    replace h2 := fun j => h2 (N + j) (by omega)
    replace h3 := fun j => h3 (N + j) (by omega)
    replace h4 := fun j => h4 (N + j) (by omega)
    replace h5 := fun j => h5 (N + j) (by omega)
    replace h6 := fun j => h6 (N + j) (by omega)
    replace h7 := fun j => h7 (N + j) (by omega)
    replace h8 := fun j => h8 (N + j) (by omega)
    dsimp only at h1 h2 h3 h4 h5 h6 h7 h8
    refine ⟨N + 4, ?_⟩
    have n1 : ¬ m < 0 := by omega
    have n2 : ¬ 1 + (r.1.length : Int) < 0 := by omega
    unfold laws_FnExactAreaNeighbors.f
    rw [szChart2 a0_0 a0_1 l0_2 hl, Option.bind_some, if_neg (by omega)]
    simp only [h1, h2, h3, h4, h5, h6, h7, h8, n1, n2, laws_FnExactAreaNeighbors.j0, laws_FnExactAreaNeighbors.j1, laws_FnExactAreaNeighbors.j2, Option.bind_some, if_true, if_false, bne_self_eq_false, Bool.false_eq_true]
  · refine ⟨0, ?_⟩
    unfold laws_FnExactAreaNeighbors.f
    rw [szChart1 a0_0 a0_1 l0_2 hl q_l0_2.1]
    rfl
end Go.Proofs.Ytaadbpibmlnncaa.Pure
