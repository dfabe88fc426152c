/- The plain law of FnExactFirstAssignment: what the program's functions compute is what the reference's compute. No program and no memory in it. -/
import Derived.Test.YtaadbpibmlnncaaZ06Hx7
import Derived.Test.YtaadbpibmlnncaaZ06Lps
namespace Go.Proofs.Ytaadbpibmlnncaa.Pure
open Go.RowKit Go.Proofs.YtaadbpibmlnncaaW.PrintWords Go.Proofs.YtaadbpibmlnncaaW.PrintLast Go.Proofs.Ytaadbpibmlnncaa.H
set_option linter.unusedVariables false
set_option linter.unusedSimpArgs false
theorem Ev.foldK {σ ρ : Type} (g : Nat → Int → σ → Option ρ) (n : Nat) (f : Nat → σ → σ) (Inv : Nat → σ → Prop) (r : ρ)
    (hstep : ∀ (i : Nat) s, i < n → Inv i s → Inv (i + 1) (f i s) ∧ (Ev (fun k => g k ((i : Int) + 1) (f i s)) r → Ev (fun k => g k (i : Int) s) r))
    (s : σ) (h0 : Inv 0 s) (hend : Ev (fun k => g k (n : Int) (loopN f n s)) r) : Ev (fun k => g k 0 s) r := by
  have key : ∀ i, i ≤ n → Inv i (loopN f i s) ∧ (Ev (fun k => g k (i : Int) (loopN f i s)) r → Ev (fun k => g k 0 s) r) := by
    intro i
    induction i with
    | zero => exact fun _ => ⟨h0, fun h => h⟩
    | succ i ih =>
      intro hi
      obtain ⟨h1, h2⟩ := ih (by omega)
      obtain ⟨h3, h4⟩ := hstep i _ (by omega) h1
      refine ⟨h3, fun h => h2 (h4 ?_)⟩
      have e : ((i + 1 : Nat) : Int) = (i : Int) + 1 := by omega
      rw [e] at h
      exact h
  exact (key n (Nat.le_refl _)).2 hend
theorem loopN_inv {σ : Type} (f : Nat → σ → σ) (Inv : Nat → σ → Prop) (n : Nat) (hstep : ∀ i s, i < n → Inv i s → Inv (i + 1) (f i s)) (s : σ) (h0 : Inv 0 s) : Inv n (loopN f n s) := by
  have key : ∀ i, i ≤ n → Inv i (loopN f i s) := by
    intro i
    induction i with
    | zero => exact fun _ => h0
    | succ i ih => exact fun hi => hstep i _ (by omega) (ih (by omega))
  exact key n (Nat.le_refl _)
theorem l1In_eq (a b c : Int) : spec_l1In.f a b c = some (rng a b c) := spec_l1In.eq a b c
theorem in_eq (a b c : Int) : impl_in.f a b c = some (rng a b c) := impl_in.eq a b c
def okChart (w h : Int) (l : List Int) : Bool := (l.all fun x => rng x 0 5) && (rng w 1 8 && (rng h 1 8 && ((l.length : Int) == wrap64 (w * h))))
theorem okChart_iff (w h : Int) (l : List Int) (hk : okChart w h l = true) : (∀ i, i < l.length → 0 ≤ l.getD i 0 ∧ l.getD i 0 ≤ 5) ∧ (1 ≤ w ∧ w ≤ 8) ∧ (1 ≤ h ∧ h ≤ 8) ∧ (l.length : Int) = w * h ∧ l.length ≤ 64 := by
  unfold okChart at hk
  simp only [Bool.and_eq_true, rng_iff, beq_iff_eq] at hk
  obtain ⟨h1, h2, h3, h4⟩ := hk
  have p0 : 0 ≤ w * h := Int.mul_nonneg (by omega) (by omega)
  have p1 : w * h ≤ 8 * 8 := Int.mul_le_mul h2.2 h3.2 (by omega) (by omega)
  rw [wrap_id _ (by omega) (by omega)] at h4
  refine ⟨fun i hi => ?_, h2, h3, h4, by omega⟩
  have := (all_getD 0 l _).1 h1 i hi
  exact (rng_iff _ _ _).1 this
theorem l2Good_ev (w h : Int) (l : List Int) (hl : l.length ≤ 2000000) : Ev (fun k => spec_l2Good.f k w h l) (okChart w h l) := by
  unfold spec_l2Good.f
  have e : okChart w h l = ((List.range l.length).all (fun i => rng (l.getD i 0) 0 5) && (rng w 1 8 && (rng h 1 8 && ((l.length : Int) == wrap64 (w * h))))) := by
    unfold okChart
    congr 1
    rw [Bool.eq_iff_iff, all_getD 0, all_range]
  rw [e]
  refine Ev.scan (fun k i => spec_l2Good.l0 k i w h l) l.length _ _ (Ev.step (f := fun _ => some _) (fun k => ?_) (Ev.now _)) ?_ ?_
  · rw [spec_l2Good.l0, if_neg (by omega)]
    unfold spec_l2Side.f
    simp only [l1In_eq, Option.bind_some]
    cases rng w 1 8 <;> cases rng h 1 8 <;> rfl
  · intro i hi hg
    refine Ev.step (f := fun _ => some false) (fun k => ?_) (Ev.now _)
    rw [spec_l2Good.l0, if_pos (by omega), if_pos (by omega)]
    unfold spec_l2Color.f
    have e0 : rd l (i : Int) = l.getD i 0 := rfl
    rw [l1In_eq, e0, hg]
    rfl
  · intro i r hi hg hr
    refine Ev.step (fun k => ?_) hr
    rw [spec_l2Good.l0, if_pos (by omega), if_pos (by omega)]
    unfold spec_l2Color.f
    have e0 : rd l (i : Int) = l.getD i 0 := rfl
    rw [l1In_eq, e0, hg, wrap_id _ (by omega) (by omega)]
    rfl
theorem IsChart_eq (w h : Int) (l : List Int) : impl_IsChart.f w h l = some (okChart w h l) := by
  unfold impl_IsChart.f impl_isSide.f areAll_impl_isColor.f okChart
  simp only [in_eq, Option.bind_some]
  by_cases e : (l.length : Int) = wrap64 (w * h)
  · rw [if_pos e, beq_iff_eq.2 e]
    cases rng w 1 8 <;> cases rng h 1 8 <;> simp
  · rw [if_neg e, beq_eq_false_iff_ne.2 e]
    cases rng w 1 8 <;> cases rng h 1 8 <;> simp
theorem szChart1 (w h : Int) (l : List Int) (hk : ¬ (l.length : Int) ≤ 1048576) (hm : l.length ≤ maxLen) : laws_szChart.f w h l 1048576 = some (-1) := by
  have hm' : l.length ≤ 9223372036854775807 := hm
  unfold laws_szChart.f laws_szIntS.f
  rw [wrap_id _ (by omega) (by omega), if_pos (by omega)]
  rfl
theorem szChart2 (w h : Int) (l : List Int) (hk : (l.length : Int) ≤ 1048576) : laws_szChart.f w h l 1048576 = some (1048576 - (l.length : Int)) := by
  unfold laws_szChart.f laws_szIntS.f
  rw [wrap_id _ (by omega) (by omega), if_neg (by omega), Option.bind_some, if_neg (by omega)]
theorem toInts_ev (l : List Int) (hl : l.length ≤ 2000000) : ∃ t : List Int, t.length = l.length ∧ Ev (fun k => laws_toIntS.f k l) t := by
  obtain ⟨r, hr, h⟩ := Ev.loopE (fun k i (s : List Int) => laws_toIntS.l0 k l s i) l.length (fun _ s => s.length = l.length) (fun r => r.length = l.length)
    (fun s hs => ⟨s, hs, Ev.step (fun k => by rw [laws_toIntS.l0, if_neg (by omega)]) (Ev.now s)⟩)
    (fun i s hi hs => ⟨s.set i (rd l i), by simp [hs], fun r h => Ev.step (fun k => by
      rw [laws_toIntS.l0, if_pos (by omega), if_pos (by omega), if_pos (by omega), wrap_id _ (by omega) (by omega), Int.toNat_natCast]) h⟩) (List.replicate l.length 0) (by simp)
  refine ⟨r, hr, Ev.congr (fun k => ?_) h⟩
  unfold laws_toIntS.f
  rw [if_pos (by omega), if_pos (by omega), Int.toNat_natCast]
theorem toChart_ev (w h : Int) (l : List Int) (hl : l.length ≤ 2000000) : ∃ t : List Int, t.length = l.length ∧ Ev (fun k => laws_toChart.f k w h l) (w, h, t) := by
  obtain ⟨t, ht, hv⟩ := toInts_ev l hl
  exact ⟨t, ht, by unfold laws_toChart.f; exact Ev.bind hv (Ev.now _)⟩
def nb (w h r c : Int) : List Int := (if r > 0 then [r * w + c - w] else []) ++ ((if c > 0 then [r * w + c - 1] else []) ++ ((if c < w - 1 then [r * w + c + 1] else []) ++ (if r < h - 1 then [r * w + c + w] else [])))
theorem nb_length (w h r c : Int) : (nb w h r c).length ≤ 4 := by
  unfold nb
  split <;> split <;> split <;> split <;> simp
theorem place_split (w h p : Int) (hw : 1 ≤ w ∧ w ≤ 8) (hh : 1 ≤ h ∧ h ≤ 8) (h0 : 0 ≤ p) (h1 : p < w * h) : Int.tdiv p w = p / w ∧ Int.tmod p w = p % w ∧ p = p / w * w + p % w ∧ 0 ≤ p / w ∧ p / w < h ∧ 0 ≤ p % w ∧ p % w < w ∧ p / w * w ≤ 64 := by
  have a := Int.tdiv_eq_ediv_of_nonneg (b := w) h0
  have b := Int.tmod_eq_emod_of_nonneg (b := w) h0
  have c := Int.mul_ediv_add_emod p w
  have d := Int.emod_nonneg p (show w ≠ 0 by omega)
  have e := Int.emod_lt_of_pos p (show 0 < w by omega)
  have f : 0 ≤ p / w := Int.ediv_nonneg h0 (by omega)
  have g : p / w < h := Int.ediv_lt_of_lt_mul (by omega) (by rw [Int.mul_comm]; exact h1)
  have k : p / w * w ≤ 7 * 8 := Int.mul_le_mul (by omega) hw.2 (by omega) (by omega)
  rw [Int.mul_comm] at c
  omega
theorem nb_bd (w h r c : Int) (hw : 1 ≤ w ∧ w ≤ 8) (hh : 1 ≤ h ∧ h ≤ 8) (hr : 0 ≤ r ∧ r < h) (hc : 0 ≤ c ∧ c < w) : ∀ q ∈ nb w h r c, 0 ≤ q ∧ q < w * h := by
  intro q hq
  have m1 : 0 ≤ r * w := Int.mul_nonneg hr.1 (by omega)
  have m2 : r * w ≤ (h - 1) * w := Int.mul_le_mul_of_nonneg_right (by omega) (by omega)
  have m3 : (h - 1) * w + w = w * h := by rw [Int.sub_mul, Int.one_mul, Int.mul_comm]; omega
  unfold nb at hq
  rw [List.mem_append, List.mem_append, List.mem_append] at hq
  rcases hq with hq | hq | hq | hq
  · split at hq
    · rw [List.mem_singleton.1 hq]
      have : 1 * w ≤ r * w := Int.mul_le_mul_of_nonneg_right (by omega) (by omega)
      omega
    · cases hq
  · split at hq
    · rw [List.mem_singleton.1 hq]; omega
    · cases hq
  · split at hq
    · rw [List.mem_singleton.1 hq]; omega
    · cases hq
  · split at hq
    · rw [List.mem_singleton.1 hq]
      have : r * w ≤ (h - 2) * w := Int.mul_le_mul_of_nonneg_right (by omega) (by omega)
      have e : (h - 2) * w = (h - 1) * w - w := by rw [Int.sub_mul, Int.sub_mul, Int.one_mul]; omega
      omega
    · cases hq
theorem hasPlace_eq (w h : Int) (l : List Int) (hk : okChart w h l = true) (r c : Int) : impl_Chart_hasPlace.f w h l r c = some (rng r 0 (h - 1) && rng c 0 (w - 1)) := by
  obtain ⟨_, hw, hh, hlen, h64⟩ := okChart_iff w h l hk
  unfold impl_Chart_hasPlace.f
  simp only [in_eq, Option.bind_some]
  rw [wrap_id (h - 1) (by omega) (by omega), wrap_id (w - 1) (by omega) (by omega)]
  cases rng r 0 (h - 1) <;> rfl
theorem Next_ev (w h : Int) (l : List Int) (p : Int) (hw : 1 ≤ w ∧ w ≤ 8) (hh : 1 ≤ h ∧ h ≤ 8) (h0 : 0 ≤ p) (h1 : p < w * h) (h64 : w * h ≤ 64) : Ev (fun k => spec_l12Next.f k w h l p) (nb w h (p / w) (p % w)) := by
  obtain ⟨a, b, c, d, e, f, g, i⟩ := place_split w h p hw hh h0 h1
  refine ⟨2, fun k hk => ?_⟩
  obtain ⟨k, rfl⟩ : ∃ m, k = m + 2 := ⟨k - 2, by omega⟩
  dsimp only
  unfold spec_l12Next.f
  rw [if_neg (by omega), a, b]
  obtain ⟨r, hr⟩ : ∃ r, r = p / w := ⟨_, rfl⟩
  obtain ⟨q, hq⟩ : ∃ q, q = p % w := ⟨_, rfl⟩
  rw [← hr] at c d e i ⊢
  rw [← hq] at c f g ⊢
  rw [wrap_id r (by omega) (by omega)]
  simp only [Option.bind_some, spec_l12Next.j0, spec_l12Next.j1]
  rw [wrap_id (w - 1) (by omega) (by omega), wrap_id (h - 1) (by omega) (by omega), wrap_id (p - w) (by omega) (by omega), wrap_id (p - 1) (by omega) (by omega), wrap_id (p + 1) (by omega) (by omega), wrap_id (p + w) (by omega) (by omega)]
  unfold nb
  rw [← c]
  by_cases q1 : r > 0 <;> by_cases q2 : q > 0 <;> by_cases q3 : q < w - 1 <;> by_cases q4 : r < h - 1 <;> simp [q1, q2, q3, q4]
abbrev DD : List S82 := [⟨-1, 0⟩, ⟨0, -1⟩, ⟨0, 1⟩, ⟨1, 0⟩]
theorem besides_step (w h : Int) (l : List Int) (hk : okChart w h l = true) (p r c : Int) (s : List Int) (hs : s.length ≤ 10) (j : Nat) (hj : j < 4) (dr dc : Int) (e1 : (rd_T82 DD (j : Int)).f0 = dr) (e2 : (rd_T82 DD (j : Int)).f1 = dc) (b1 : -1 ≤ dr ∧ dr ≤ 1) (b2 : -1 ≤ dc ∧ dc ≤ 1) (hp : 0 ≤ p ∧ p ≤ 64) (hr : 0 ≤ r ∧ r ≤ 8) (hc : 0 ≤ c ∧ c ≤ 8) (v : List Int)
    (h1 : Ev (fun k => impl_Chart_besides.l0 k p (if (rng (r + dr) 0 (h - 1) && rng (c + dc) 0 (w - 1)) = true then s ++ [p + dr * w + dc] else s) r c DD 4 ((j : Int) + 1) w h l) v) : Ev (fun k => impl_Chart_besides.l0 k p s r c DD 4 (j : Int) w h l) v := by
  obtain ⟨_, hw, hh, hlen, h64⟩ := okChart_iff w h l hk
  have hd : -8 ≤ dr * w ∧ dr * w ≤ 8 := by
    rcases (by omega : dr = -1 ∨ dr = 0 ∨ dr = 1) with rfl | rfl | rfl <;> omega
  refine Ev.step (fun k => ?_) h1
  have el : (DD.length : Int) = 4 := rfl
  rw [impl_Chart_besides.l0, if_pos (by omega), if_pos (by omega), if_pos (by omega), e1, e2, wrap_id (r + dr) (by omega) (by omega), wrap_id (c + dc) (by omega) (by omega), hasPlace_eq w h l hk, Option.bind_some, wrap_id (dr * w) (by omega) (by omega), wrap_id (p + dr * w) (by omega) (by omega), wrap_id (p + dr * w + dc) (by omega) (by omega), wrap_id ((j : Int) + 1) (by omega) (by omega)]
  split
  · rw [if_pos (by omega)]
  · rfl
theorem besides_ev (w h : Int) (l : List Int) (hk : okChart w h l = true) (p : Int) (h0 : 0 ≤ p) (h1 : p < w * h) : Ev (fun k => impl_Chart_besides.f k w h l p) (nb w h (p / w) (p % w)) := by
  obtain ⟨_, hw, hh, hlen, h64⟩ := okChart_iff w h l hk
  obtain ⟨a, b, c, d, e, f, g, i⟩ := place_split w h p hw hh h0 h1
  unfold impl_Chart_besides.f
  simp only [if_neg (show ¬ w = 0 by omega), a, b, Option.bind_some]
  obtain ⟨r, hr⟩ : ∃ r, r = p / w := ⟨_, rfl⟩
  obtain ⟨q, hq⟩ : ∃ q, q = p % w := ⟨_, rfl⟩
  rw [← hr] at c d e i
  rw [← hq] at c f g
  rw [← hr, ← hq]
  rw [wrap_id r (by omega) (by omega)]
  have c1 : (rng (r + -1) 0 (h - 1) && rng (q + 0) 0 (w - 1)) = decide (r > 0) := by
    rw [Bool.eq_iff_iff, Bool.and_eq_true, rng_iff, rng_iff, decide_eq_true_iff]; omega
  have c2 : (rng (r + 0) 0 (h - 1) && rng (q + -1) 0 (w - 1)) = decide (q > 0) := by
    rw [Bool.eq_iff_iff, Bool.and_eq_true, rng_iff, rng_iff, decide_eq_true_iff]; omega
  have c3 : (rng (r + 0) 0 (h - 1) && rng (q + 1) 0 (w - 1)) = decide (q < w - 1) := by
    rw [Bool.eq_iff_iff, Bool.and_eq_true, rng_iff, rng_iff, decide_eq_true_iff]; omega
  have c4 : (rng (r + 1) 0 (h - 1) && rng (q + 0) 0 (w - 1)) = decide (r < h - 1) := by
    rw [Bool.eq_iff_iff, Bool.and_eq_true, rng_iff, rng_iff, decide_eq_true_iff]; omega
  refine besides_step w h l hk p r q [] (by simp) 0 (by omega) (-1) 0 rfl rfl (by omega) (by omega) (by omega) (by omega) (by omega) _ ?_
  refine besides_step w h l hk p r q _ (by split <;> simp) 1 (by omega) 0 (-1) rfl rfl (by omega) (by omega) (by omega) (by omega) (by omega) _ ?_
  refine besides_step w h l hk p r q _ (by split <;> split <;> simp) 2 (by omega) 0 1 rfl rfl (by omega) (by omega) (by omega) (by omega) (by omega) _ ?_
  refine besides_step w h l hk p r q _ (by split <;> split <;> split <;> simp) 3 (by omega) 1 0 rfl rfl (by omega) (by omega) (by omega) (by omega) (by omega) _ ?_
  rw [c1, c2, c3, c4]
  simp only [decide_eq_true_iff]
  refine Ev.step (f := fun _ => some _) (fun k => ?_) (Ev.now _)
  rw [impl_Chart_besides.l0, if_neg (by omega)]
  unfold nb
  rw [← c]
  have m1 : p + -1 * w + 0 = p - w := by omega
  have m2 : p + 0 * w + -1 = p - 1 := by omega
  have m3 : p + 0 * w + 1 = p + 1 := by omega
  have m4 : p + 1 * w + 0 = p + w := by omega
  rw [m1, m2, m3, m4]
  by_cases q1 : r > 0 <;> by_cases q2 : q > 0 <;> by_cases q3 : q < w - 1 <;> by_cases q4 : r < h - 1 <;> simp [q1, q2, q3, q4]
def negs (o : List Int) : Nat := o.countP fun v => decide (v < 0)
def stA (l : List Int) (i n q : Int) (s : List Int × List Int) : List Int × List Int := if rd s.1 q < 0 then (if rd l q = rd l i then (s.1.set q.toNat n, s.2 ++ [q]) else s) else s
def okA (L i : Nat) (n : Int) (s : List Int × List Int) : Prop :=
  s.1.length = L ∧ (∀ j : Nat, -1 ≤ s.1.getD j 0 ∧ s.1.getD j 0 ≤ n) ∧ (∀ j : Nat, j ≤ i → 0 ≤ s.1.getD j 0) ∧ s.2.length + negs s.1 ≤ 64 ∧ (∀ q ∈ s.2, 0 ≤ q ∧ q < (L : Int)) ∧ ∀ v : Int, 0 ≤ v → v ≤ n → ∃ j : Nat, j < L ∧ s.1.getD j 0 = v
theorem negs_set (o : List Int) (q : Nat) (n : Int) (hq : q < o.length) (h : o.getD q 0 < 0) (hn : 0 ≤ n) : negs (o.set q n) + 1 = negs o := by
  have e : o.getD q 0 = o[q] := by rw [List.getD_eq_getElem?_getD, List.getElem?_eq_getElem hq]; rfl
  rw [e] at h
  have hp : 0 < negs o := List.countP_pos_iff.2 ⟨o[q], List.getElem_mem hq, by simpa using h⟩
  unfold negs at hp ⊢
  rw [List.countP_set hq, if_pos (by simpa using h), if_neg (by simp; omega)]
  omega
theorem okA_step (L i : Nat) (l : List Int) (n q : Int) (hn : 0 ≤ n) (h0 : 0 ≤ q) (h1 : q < (L : Int)) (s : List Int × List Int) (hs : okA L i n s) : okA L i n (stA l i n q s) := by
  unfold stA
  by_cases c : rd s.1 q < 0
  · rw [if_pos c]
    by_cases c2 : rd l q = rd l i
    · rw [if_pos c2]
      obtain ⟨a, b, d, e, f, sj⟩ := hs
      have c' : s.1.getD q.toNat 0 < 0 := c
      have hz := negs_set s.1 q.toNat n (by omega) c' hn
      refine ⟨by rw [List.length_set]; exact a, fun j => ?_, fun j hj => ?_, ?_, fun x hx => ?_, fun v v0 v1 => ?_⟩
      · rw [getD_set]; have := b j; split <;> omega
      · rw [getD_set]; have := d j hj; split <;> omega
      · rw [List.length_append, List.length_singleton]; dsimp only; omega
      · rcases List.mem_append.1 hx with hx | hx
        · exact f x hx
        · rw [List.mem_singleton.1 hx]; exact ⟨h0, h1⟩
      · obtain ⟨j, hj, hv⟩ := sj v v0 v1
        exact ⟨j, hj, by dsimp only; rw [getD_set, if_neg (fun h => by have := h.1; subst this; omega)]; exact hv⟩
    · rw [if_neg c2]; exact hs
  · rw [if_neg c]; exact hs
theorem area_in (w h : Int) (l : List Int) (L : Nat) (hL : l.length = L) (h64 : L ≤ 64) (i : Nat) (hi : i < L) (n : Int) (hn : 0 ≤ n) (x : Int) (ns : List Int) (hns : ns.length ≤ 4) (hb : ∀ q ∈ ns, 0 ≤ q ∧ q < (L : Int)) (b : Int) (Post : List Int × Int → Prop)
    (hend : ∀ s, okA L i n s → ∃ r, Post r ∧ Ev (fun k => spec_l12Areas.l2 k s.1 n i s.2 (wrap64 (x + 1)) w h l) r ∧ Ev (fun k => impl_Chart_areas.l1 k s.1 n i s.2 (wrap64 (x + 1)) b i w h l) r)
    (s : List Int × List Int) (hs : okA L i n s) : ∃ r, Post r ∧ Ev (fun k => spec_l12Areas.l3 k s.1 n i s.2 x ns 0 w h l) r ∧ Ev (fun k => impl_Chart_areas.l2 k s.1 n i s.2 x b i ns (ns.length : Int) 0 w h l) r := by
  refine Ev.two (fun k j (s : List Int × List Int) => spec_l12Areas.l3 k s.1 n i s.2 x ns j w h l) (fun k j (s : List Int × List Int) => impl_Chart_areas.l2 k s.1 n i s.2 x b i ns (ns.length : Int) j w h l) ns.length (fun j s t => s = t ∧ okA L i n s) Post
    (fun s t hs => ?_) (fun j s t hj hs => .inr ?_) s s ⟨rfl, hs⟩
  · obtain ⟨rfl, hs⟩ := hs
    obtain ⟨r, hr, h1, h2⟩ := hend s hs
    exact ⟨r, hr, Ev.step (fun k => by rw [spec_l12Areas.l3, if_neg (by omega)]) h1, Ev.step (fun k => by rw [impl_Chart_areas.l2, if_neg (by omega)]) h2⟩
  · obtain ⟨rfl, hs⟩ := hs
    have hm : ns.getD j 0 ∈ ns := by
      rw [List.getD_eq_getElem?_getD, List.getElem?_eq_getElem hj]
      exact List.getElem_mem hj
    have hq := hb _ hm
    obtain ⟨q, hqe⟩ : ∃ q, q = ns.getD j 0 := ⟨_, rfl⟩
    have e0 : rd ns (j : Int) = q := by rw [hqe]; rfl
    rw [← hqe] at hq
    have hs2 := hs
    obtain ⟨o1, o2, o3, o4, o5, _⟩ := hs2
    refine ⟨stA l i n q s, _, ⟨rfl, okA_step L i l n q hn hq.1 hq.2 s hs⟩, fun r hr => Ev.step (fun k => ?_) hr, fun r hr => Ev.step (fun k => ?_) hr⟩
    · rw [spec_l12Areas.l3, if_pos (by omega), if_pos (by omega), e0, if_pos (by omega), if_pos (by omega), wrap_id ((j : Int) + 1) (by omega) (by omega)]
      unfold stA
      by_cases c : rd s.1 q < 0
      · rw [if_pos c, if_pos c, if_pos (by omega), if_pos (by omega), if_pos (by omega)]
        by_cases c2 : rd l q = rd l i
        · rw [if_pos c2, if_pos c2, if_pos (by omega)]
        · rw [if_neg c2, if_neg c2]
      · rw [if_neg c, if_neg c]
    · rw [impl_Chart_areas.l2, if_pos (by omega), if_pos (by omega), if_pos (by omega), e0, if_pos (by omega), if_pos (by omega), wrap_id ((j : Int) + 1) (by omega) (by omega)]
      unfold stA
      by_cases c : rd s.1 q < 0
      · rw [if_pos c, if_pos c, if_pos (by omega), if_pos (by omega), if_pos (by omega)]
        by_cases c2 : rd l q = rd l i
        · rw [if_pos c2, if_pos c2, if_pos (by omega)]
        · rw [if_neg c2, if_neg c2]
      · rw [if_neg c, if_neg c]
theorem area_while (w h : Int) (l : List Int) (hk : okChart w h l = true) (i : Nat) (hi : i < l.length) (n : Int) (hn : 0 ≤ n) (b : Int) (Post : List Int × Int → Prop)
    (hend : ∀ s, okA l.length i n s → ∃ r, Post r ∧ Ev (fun k => spec_l12Areas.l1 k s.1 (wrap64 (n + 1)) (wrap64 ((i : Int) + 1)) w h l) r ∧ Ev (fun k => impl_Chart_areas.l0 k s.1 (wrap64 (n + 1)) b (wrap64 ((i : Int) + 1)) w h l) r) (d : Nat) :
    ∀ (x : Nat) (s : List Int × List Int), x + d = 65 → okA l.length i n s → ∃ r, Post r ∧ Ev (fun k => spec_l12Areas.l2 k s.1 n i s.2 (x : Int) w h l) r ∧ Ev (fun k => impl_Chart_areas.l1 k s.1 n i s.2 (x : Int) b i w h l) r := by
  obtain ⟨_, hw, hh, hlen, h64⟩ := okChart_iff w h l hk
  induction d with
  | zero =>
    intro x s hx hs
    have hs2 := hs
    obtain ⟨o1, o2, o3, o4, o5, _⟩ := hs2
    obtain ⟨r, hr, h1, h2⟩ := hend s hs
    exact ⟨r, hr, Ev.step (fun k => by rw [spec_l12Areas.l2, if_neg (by omega)]) h1, Ev.step (fun k => by rw [impl_Chart_areas.l1, if_neg (by omega)]) h2⟩
  | succ d ih =>
    intro x s hx hs
    by_cases hlt : x < s.2.length
    · have hm : s.2.getD x 0 ∈ s.2 := by
        rw [List.getD_eq_getElem?_getD, List.getElem?_eq_getElem hlt]
        exact List.getElem_mem hlt
      have hs2 := hs
      obtain ⟨o1, o2, o3, o4, o5, _⟩ := hs2
      have hq := o5 _ hm
      obtain ⟨p, hp⟩ : ∃ p, p = s.2.getD x 0 := ⟨_, rfl⟩
      have e0 : rd s.2 (x : Int) = p := by rw [hp]; rfl
      rw [← hp] at hq
      have hsp := place_split w h p hw hh hq.1 (by omega)
      have hnb := nb_bd w h (p / w) (p % w) hw hh ⟨hsp.2.2.2.1, hsp.2.2.2.2.1⟩ ⟨hsp.2.2.2.2.2.1, hsp.2.2.2.2.2.2.1⟩
      obtain ⟨r, hr, h1, h2⟩ := area_in w h l l.length rfl h64 i hi n hn (x : Int) (nb w h (p / w) (p % w)) (nb_length _ _ _ _) (fun q hq => by have := hnb q hq; omega) b Post (fun s' hs' => by
        rw [wrap_id ((x : Int) + 1) (by omega) (by omega)]
        have e : ((x + 1 : Nat) : Int) = (x : Int) + 1 := by omega
        have := ih (x + 1) s' (by omega) hs'
        rw [e] at this
        exact this) s hs
      refine ⟨r, hr, Ev.step (f := fun k => (spec_l12Next.f k w h l p).bind _) (fun k => by rw [spec_l12Areas.l2, if_pos (by omega), if_pos (by omega), e0]) (Ev.bind (Next_ev w h l p hw hh hq.1 (by omega) (by omega)) h1), Ev.step (f := fun k => (impl_Chart_besides.f k w h l p).bind _) (fun k => by rw [impl_Chart_areas.l1, if_pos (by omega), if_pos (by omega), e0]) (Ev.bind (besides_ev w h l hk p hq.1 (by omega)) h2)⟩
    · obtain ⟨r, hr, h1, h2⟩ := hend s hs
      exact ⟨r, hr, Ev.step (fun k => by rw [spec_l12Areas.l2, if_neg (by omega)]) h1, Ev.step (fun k => by rw [impl_Chart_areas.l1, if_neg (by omega)]) h2⟩
def okO (L i : Nat) (s : List Int × Int) : Prop := s.1.length = L ∧ 0 ≤ s.2 ∧ s.2 ≤ (i : Int) ∧ (0 < i → 1 ≤ s.2) ∧ (∀ j : Nat, j < L → -1 ≤ s.1.getD j 0 ∧ s.1.getD j 0 < s.2) ∧ (∀ j : Nat, j < i → 0 ≤ s.1.getD j 0) ∧ ∀ v : Int, 0 ≤ v → v < s.2 → ∃ j : Nat, j < L ∧ s.1.getD j 0 = v
def okAreas2 (L : Nat) (s : List Int × Int) : Prop := (s.1.length = L ∧ 1 ≤ s.2 ∧ s.2 ≤ 64 ∧ ∀ j : Nat, j < L → 0 ≤ s.1.getD j 0 ∧ s.1.getD j 0 < s.2) ∧ ∀ v : Int, 0 ≤ v → v < s.2 → ∃ j : Nat, j < L ∧ s.1.getD j 0 = v
theorem area_out (w h : Int) (l : List Int) (hk : okChart w h l = true) (d : Nat) : ∀ (i : Nat) (s : List Int × Int), i + d = l.length → okO l.length i s →
    ∃ r, okAreas2 l.length r ∧ Ev (fun k => spec_l12Areas.l1 k s.1 s.2 (i : Int) w h l) r ∧ Ev (fun k => impl_Chart_areas.l0 k s.1 s.2 (l.length : Int) (i : Int) w h l) r := by
  obtain ⟨_, hw, hh, hlen, h64⟩ := okChart_iff w h l hk
  have hpos : 1 * 1 ≤ w * h := Int.mul_le_mul hw.1 hh.1 (by omega) (by omega)
  induction d with
  | zero =>
    intro i s hi hs
    obtain ⟨o1, o2, o3, o4, o5, o6, o7⟩ := hs
    refine ⟨s, ⟨⟨o1, o4 (by omega), by omega, fun j hj => ⟨o6 j (by omega), (o5 j hj).2⟩⟩, o7⟩, Ev.step (f := fun _ => some s) (fun k => by rw [spec_l12Areas.l1, if_neg (by omega)]) (Ev.now _), Ev.step (f := fun _ => some s) (fun k => by rw [impl_Chart_areas.l0, if_neg (by omega)]) (Ev.now _)⟩
  | succ d ih =>
    intro i s hi hs
    have hs2 := hs
    obtain ⟨o1, o2, o3, o4, o5, o6, o7⟩ := hs2
    have e0 : rd s.1 (i : Int) = s.1.getD i 0 := rfl
    have e : ((i + 1 : Nat) : Int) = (i : Int) + 1 := by omega
    by_cases c : rd s.1 (i : Int) ≥ 0
    · obtain ⟨r, hr, h1, h2⟩ := ih (i + 1) s (by omega) ⟨o1, o2, by omega, fun _ => by have := o5 i (by omega); omega, o5, fun j hj => by
        by_cases hji : j = i
        · rw [hji]; rw [e0] at c; exact c
        · exact o6 j (by omega), o7⟩
      rw [e] at h1 h2
      exact ⟨r, hr, Ev.step (fun k => by rw [spec_l12Areas.l1, if_pos (by omega), if_pos (by omega), if_pos c, wrap_id _ (by omega) (by omega)]) h1, Ev.step (fun k => by rw [impl_Chart_areas.l0, if_pos (by omega), if_pos (by omega), if_pos (by omega), if_pos c, wrap_id _ (by omega) (by omega)]) h2⟩
    · have hneg : negs (s.1.set i s.2) + 1 = negs s.1 := negs_set s.1 i s.2 (by omega) (by rw [e0] at c; omega) o2
      have hle : negs s.1 ≤ s.1.length := List.countP_le_length
      obtain ⟨r, hr, h1, h2⟩ := area_while w h l hk i (by omega) s.2 o2 (l.length : Int) (okAreas2 l.length) (fun s' hs' => by
        obtain ⟨a1, a2, a3, a4, a5, a6⟩ := hs'
        rw [wrap_id (s.2 + 1) (by omega) (by omega), wrap_id ((i : Int) + 1) (by omega) (by omega)]
        have := ih (i + 1) (s'.1, s.2 + 1) (by omega) ⟨a1, by dsimp only; omega, by dsimp only; omega, fun _ => by dsimp only; omega, fun j hj => by have := a2 j; dsimp only; omega, fun j hj => a3 j (by omega), fun v v0 v1 => a6 v v0 (by dsimp only at v1; omega)⟩
        rw [e] at this
        exact this) 65 0 (s.1.set i s.2, [(i : Int)]) (by omega) ⟨by rw [List.length_set]; exact o1, fun j => by
          rw [getD_set]
          split
          · omega
          · by_cases hj : j < l.length
            · have := o5 j hj; omega
            · rw [List.getD_eq_getElem?_getD, List.getElem?_eq_none (by omega)]; simp; omega, fun j hj => by
          rw [getD_set]
          split
          · omega
          · exact o6 j (by omega), by simp only [List.length_singleton]; omega, fun q hq => by rw [List.mem_singleton.1 hq]; omega, fun v v0 v1 => by
          by_cases hv : v = s.2
          · exact ⟨i, by omega, by dsimp only; rw [getD_set, if_pos ⟨rfl, by omega⟩, hv]⟩
          · obtain ⟨j, hj, hjv⟩ := o7 v v0 (by omega)
            exact ⟨j, hj, by dsimp only; rw [getD_set, if_neg (fun h => by have := h.1; subst this; omega)]; exact hjv⟩⟩
      exact ⟨r, hr, Ev.step (fun k => by rw [spec_l12Areas.l1, if_pos (by omega), if_pos (by omega), if_neg c, Int.toNat_natCast]; rfl) h1, Ev.step (fun k => by rw [impl_Chart_areas.l0, if_pos (by omega), if_pos (by omega), if_pos (by omega), if_neg c, Int.toNat_natCast]; rfl) h2⟩
theorem areas_same2 (w h : Int) (l : List Int) (hk : okChart w h l = true) : ∃ r, okAreas2 l.length r ∧ Ev (fun k => spec_l12Areas.f k w h l) r ∧ Ev (fun k => impl_Chart_areas.f k w h l) r := by
  obtain ⟨_, hw, hh, hlen, h64⟩ := okChart_iff w h l hk
  obtain ⟨r, hr, h1, h2⟩ := area_out w h l hk l.length 0 (List.replicate l.length (-1), 0) (by omega) ⟨by simp, by simp, by simp, fun hh => absurd hh (by omega), fun j hj => by
    rw [List.getD_eq_getElem?_getD, List.getElem?_replicate, if_pos hj]; simp, fun j hj => absurd hj (by omega), fun v v0 v1 => absurd v1 (by dsimp only; omega)⟩
  refine ⟨r, hr, ?_, ?_⟩
  · unfold spec_l12Areas.f
    refine Ev.foldK (fun k i (s : List Int) => spec_l12Areas.l0 k s i w h l) l.length (fun _ s => s ++ [-1]) (fun i s => s = List.replicate i (-1)) r (fun i s hi hs => ⟨by rw [hs, List.replicate_succ'], fun h1 => Ev.step (fun k => ?_) h1⟩) [] rfl ?_
    · have : s.length = i := by rw [hs]; simp
      rw [spec_l12Areas.l0, if_pos (by omega), if_pos (by omega), wrap_id _ (by omega) (by omega)]
    · have e : loopN (fun _ s => s ++ [-1]) l.length ([] : List Int) = List.replicate l.length (-1) := loopN_inv (fun _ s => s ++ [-1]) (fun i s => s = List.replicate i (-1)) l.length (fun i s _ hs => by rw [hs, List.replicate_succ']) [] rfl
      rw [e]
      exact Ev.step (fun k => by rw [spec_l12Areas.l0, if_neg (by omega)]; rfl) h1
  · unfold impl_Chart_areas.f slices_Repeat_int_int.f
    rw [if_pos ⟨rfl, by omega, by omega⟩]
    simp only [Option.bind_some, Int.toNat_natCast]
    have e : ((List.replicate l.length (([(-1)] : List Int).getD 0 0)).length : Int) = (l.length : Int) := by rw [List.length_replicate]
    rw [e]
    exact h2
theorem sizes_l0_eq (k : Nat) : ∀ (a x y : List Int) (i w h : Int) (l : List Int), impl_Chart_sizes.l0 k a x y (a.length : Int) i w h l = spec_l12Sizes.l0 k a x y i w h l := by
  induction k with
  | zero => intros; rfl
  | succ k ih =>
    intro a x y i w h l
    rw [impl_Chart_sizes.l0, spec_l12Sizes.l0]
    by_cases c : i < (a.length : Int)
    · simp only [if_pos c, ih]
    · simp only [if_neg c]
theorem sizes_same2 (w h : Int) (l : List Int) (hk : okChart w h l = true) : ∃ r : List Int × List Int, ((r.1.length = r.2.length ∧ 1 ≤ r.1.length ∧ r.1.length ≤ 64 ∧ ∀ j : Nat, 0 ≤ r.1.getD j 0 ∧ r.1.getD j 0 ≤ 64) ∧ ∀ j : Nat, j < r.1.length → 1 ≤ r.1.getD j 0) ∧ Ev (fun k => spec_l12Sizes.f k w h l) r ∧ Ev (fun k => impl_Chart_sizes.f k w h l) r := by
  obtain ⟨_, hw, hh, hlen, h64⟩ := okChart_iff w h l hk
  obtain ⟨⟨a, n⟩, ⟨⟨o1, o2, o3, o4⟩, o5⟩, h1, h2⟩ := areas_same2 w h l hk
  dsimp only at o1 o2 o3 o4 o5
  obtain ⟨r, hr, h3⟩ := Ev.loopE (fun k i (s : List Int × List Int) => spec_l12Sizes.l0 k a s.1 s.2 i w h l) a.length (fun i s => s.1.length = n.toNat ∧ s.2.length = n.toNat ∧ (∀ j : Nat, 0 ≤ s.1.getD j 0 ∧ s.1.getD j 0 ≤ (i : Int)) ∧ ∀ j : Nat, j < i → 1 ≤ s.1.getD (a.getD j 0).toNat 0) (fun r => (r.1.length = r.2.length ∧ 1 ≤ r.1.length ∧ r.1.length ≤ 64 ∧ ∀ j : Nat, 0 ≤ r.1.getD j 0 ∧ r.1.getD j 0 ≤ 64) ∧ ∀ j : Nat, j < r.1.length → 1 ≤ r.1.getD j 0)
    (fun s hs => ⟨s, ⟨⟨by omega, by omega, by omega, fun j => by have := hs.2.2.1 j; omega⟩, fun j hj => by
        obtain ⟨p, hp, hpv⟩ := o5 (j : Int) (by omega) (by omega)
        have := hs.2.2.2 p (by omega)
        rw [hpv, Int.toNat_natCast] at this
        exact this⟩, Ev.step (f := fun _ => some _) (fun k => by rw [spec_l12Sizes.l0, if_neg (by omega)]) (Ev.now _)⟩)
    (fun i s hi hs => by
      obtain ⟨z1, z2, z3, z4⟩ := hs
      have hb := o4 i (by omega)
      obtain ⟨q, hq⟩ : ∃ q, q = a.getD i 0 := ⟨_, rfl⟩
      have e0 : rd a (i : Int) = q := by rw [hq]; rfl
      have e1 : rd s.1 q = s.1.getD q.toNat 0 := rfl
      rw [← hq] at hb
      have hz := z3 q.toNat
      refine ⟨(s.1.set q.toNat (s.1.getD q.toNat 0 + 1), s.2.set q.toNat (rd l i)), ⟨by rw [List.length_set]; exact z1, by rw [List.length_set]; exact z2, fun j => ?_, fun j hj => ?_⟩, fun r h => Ev.step (fun k => ?_) h⟩
      · dsimp only
        rw [getD_set]
        have := z3 j
        split <;> omega
      · dsimp only
        rw [getD_set]
        by_cases hji : j = i
        · subst hji
          rw [← hq, if_pos ⟨rfl, by omega⟩]
          omega
        · have := z4 j (by omega)
          split
          · omega
          · exact this
      · rw [spec_l12Sizes.l0, if_pos (by omega), if_pos (by omega), e0, if_pos (by omega), if_pos (by omega), if_pos (by omega), if_pos (by omega), e1, wrap_id (s.1.getD q.toNat 0 + 1) (by omega) (by omega), wrap_id _ (by omega) (by omega)]) (List.replicate n.toNat 0, List.replicate n.toNat 0) ⟨by simp, by simp, fun j => by
        dsimp only
        rw [List.getD_eq_getElem?_getD, List.getElem?_replicate]; split <;> simp, fun j hj => absurd hj (by omega)⟩
  refine ⟨r, hr, ?_, ?_⟩
  · unfold spec_l12Sizes.f
    refine Ev.bind h1 ?_
    simp only [if_pos (show 0 ≤ n by omega), if_pos (show n.toNat ≤ 35184372088832 by omega)]
    exact h3
  · unfold impl_Chart_sizes.f
    refine Ev.bind h2 ?_
    simp only [if_pos (show 0 ≤ n by omega), if_pos (show n.toNat ≤ 35184372088832 by omega), sizes_l0_eq]
    exact h3
theorem color_l0_eq (k : Nat) : ∀ (c : Int) (o S C : List Int) (i : Int), impl_Chart_sizesOf.l0 k c o S C (S.length : Int) i = spec_l12Color.l0 k c S C o i := by
  induction k with
  | zero => intros; rfl
  | succ k ih =>
    intro c o S C i
    rw [impl_Chart_sizesOf.l0, spec_l12Color.l0]
    by_cases q : i < (S.length : Int)
    · simp only [if_pos q, ih]
    · simp only [if_neg q]
theorem sizesOf_same2 (w h : Int) (l : List Int) (hk : okChart w h l = true) (c : Int) : ∃ r : List Int, ((r.length ≤ 64 ∧ ∀ j : Nat, 0 ≤ r.getD j 0 ∧ r.getD j 0 ≤ 64) ∧ ∀ j : Nat, j < r.length → 1 ≤ r.getD j 0) ∧ Ev (fun k => spec_l12Color.f k w h l c) r ∧ Ev (fun k => impl_Chart_sizesOf.f k w h l c) r := by
  obtain ⟨⟨S, C⟩, ⟨⟨z1, z2, z3, z4⟩, z5⟩, ha, hb⟩ := sizes_same2 _ _ _ hk
  dsimp only at z1 z2 z3 z4 z5
  obtain ⟨r, hr, h1⟩ := Ev.loopE (fun k i (o : List Int) => spec_l12Color.l0 k c S C o i) S.length (fun i o => (o.length ≤ i ∧ ∀ j : Nat, 0 ≤ o.getD j 0 ∧ o.getD j 0 ≤ 64) ∧ ∀ j : Nat, j < o.length → 1 ≤ o.getD j 0) (fun r => (r.length ≤ 64 ∧ ∀ j : Nat, 0 ≤ r.getD j 0 ∧ r.getD j 0 ≤ 64) ∧ ∀ j : Nat, j < r.length → 1 ≤ r.getD j 0)
    (fun o ho => ⟨o, ⟨⟨by have := ho.1.1; omega, ho.1.2⟩, ho.2⟩, Ev.step (f := fun _ => some o) (fun k => by rw [spec_l12Color.l0, if_neg (by omega)]) (Ev.now _)⟩)
    (fun i o hi ho => by
      obtain ⟨⟨o1, o2⟩, o3⟩ := ho
      have e0 : rd S (i : Int) = S.getD i 0 := rfl
      by_cases q : rd C (i : Int) = c
      · refine ⟨o ++ [S.getD i 0], ⟨⟨by rw [List.length_append, List.length_singleton]; omega, fun j => ?_⟩, fun j hj => ?_⟩, fun r h => Ev.step (fun k => ?_) h⟩
        · rw [List.getD_eq_getElem?_getD, List.getElem?_append]
          split
          · rw [← List.getD_eq_getElem?_getD]; exact o2 j
          · rw [List.getElem?_singleton]
            split
            · exact z4 i
            · simp
        · rw [List.length_append, List.length_singleton] at hj
          rw [List.getD_eq_getElem?_getD, List.getElem?_append]
          by_cases hjo : j < o.length
          · rw [if_pos hjo, ← List.getD_eq_getElem?_getD]; exact o3 j hjo
          · rw [if_neg hjo, List.getElem?_singleton, if_pos (by omega)]
            exact z5 i hi
        · rw [spec_l12Color.l0, if_pos (by omega), if_pos (by omega), if_pos (by omega), if_pos q, if_pos (by omega), e0, wrap_id _ (by omega) (by omega)]
      · exact ⟨o, ⟨⟨by omega, o2⟩, o3⟩, fun r h => Ev.step (fun k => by rw [spec_l12Color.l0, if_pos (by omega), if_pos (by omega), if_pos (by omega), if_neg q, wrap_id _ (by omega) (by omega)]) h⟩) [] ⟨⟨by simp, fun j => by simp⟩, fun j hj => absurd hj (by simp)⟩
  refine ⟨r, hr, ?_, ?_⟩
  · unfold spec_l12Color.f; exact Ev.bind ha h1
  · unfold impl_Chart_sizesOf.f
    refine Ev.bind hb ?_
    dsimp only
    simp only [color_l0_eq]
    exact h1
theorem sizesOf_same (w h : Int) (l : List Int) (hk : okChart w h l = true) (c : Int) : ∃ r : List Int, (r.length ≤ 64 ∧ ∀ j : Nat, 0 ≤ r.getD j 0 ∧ r.getD j 0 ≤ 64) ∧ Ev (fun k => spec_l12Color.f k w h l c) r ∧ Ev (fun k => impl_Chart_sizesOf.f k w h l c) r := by
  obtain ⟨r, hr, h1, h2⟩ := sizesOf_same2 w h l hk c
  exact ⟨r, hr.1, h1, h2⟩
theorem specColor_eq (c : Int) : spec_l2Color.f c = some (rng c 0 5) := by unfold spec_l2Color.f; rw [l1In_eq]; rfl
theorem isColor_eq (c : Int) : impl_isColor.f c = some (rng c 0 5) := by unfold impl_isColor.f; rw [in_eq]; rfl
def okLots (l : List Int) : Bool := (l.all fun x => rng x 1 100) && rng (l.length : Int) 1 6
theorem okLots_iff (l : List Int) (h : okLots l = true) : (∀ i, i < l.length → 1 ≤ l.getD i 0 ∧ l.getD i 0 ≤ 100) ∧ 1 ≤ l.length ∧ l.length ≤ 6 := by
  unfold okLots at h
  rw [Bool.and_eq_true, rng_iff] at h
  refine ⟨fun i hi => ?_, by omega, by omega⟩
  have := (all_getD 0 l _).1 h.1 i hi
  exact (rng_iff _ _ _).1 this
theorem specLots_ev (l : List Int) (hl : l.length ≤ 2000000) : Ev (fun k => spec_l12Lots.f k l) (okLots l) := by
  unfold spec_l12Lots.f
  have e : okLots l = ((List.range l.length).all (fun i => rng (l.getD i 0) 1 100) && rng (l.length : Int) 1 6) := by
    unfold okLots
    congr 1
    rw [Bool.eq_iff_iff, all_getD 0, all_range]
  rw [e]
  refine Ev.scan (fun k i => spec_l12Lots.l0 k l i) l.length _ _ (Ev.step (f := fun _ => some _) (fun k => ?_) (Ev.now _)) ?_ ?_
  · rw [spec_l12Lots.l0, if_neg (by omega), l1In_eq]
    rfl
  · intro i hi hg
    refine Ev.step (f := fun _ => some false) (fun k => ?_) (Ev.now _)
    have e0 : rd l (i : Int) = l.getD i 0 := rfl
    rw [spec_l12Lots.l0, if_pos (by omega), if_pos (by omega), l1In_eq, e0, hg]
    rfl
  · intro i r hi hg hr
    refine Ev.step (fun k => ?_) hr
    have e0 : rd l (i : Int) = l.getD i 0 := rfl
    rw [spec_l12Lots.l0, if_pos (by omega), if_pos (by omega), l1In_eq, e0, hg, wrap_id _ (by omega) (by omega)]
    rfl
theorem areLots_eq (l : List Int) : impl_areLots.f l = some (okLots l) := by
  unfold impl_areLots.f areAll_impl_areLots_1.f okLots
  simp only [in_eq, Option.bind_some]
  cases rng (l.length : Int) 1 6 <;> simp
theorem specAsked_ev (w h : Int) (l : List Int) (c : Int) (q : List Int) (hl : l.length ≤ 2000000) (hq : q.length ≤ 2000000) : Ev (fun k => spec_l12Asked.f k w h l c q) (okChart w h l && (rng c 0 5 && okLots q)) := by
  unfold spec_l12Asked.f
  refine Ev.bind (l2Good_ev w h l hl) ?_
  simp only [specColor_eq, Option.bind_some]
  cases okChart w h l with
  | false => exact Ev.now _
  | true =>
    cases rng c 0 5 with
    | false => exact Ev.now _
    | true => simp only [if_true, Bool.true_and]; exact Ev.bind (specLots_ev q hq) (Ev.now _)
theorem has_ev (l : List Int) (v : Int) (hl : l.length ≤ 2000000) : Ev (fun k => spec_l1Has.f k l v) (decide (v ∈ l)) := by
  unfold spec_l1Has.f
  have key : ∀ d i : Nat, i + d = l.length → Ev (fun k => spec_l1Has.l0 k l v (i : Int)) (decide (v ∈ l.drop i)) := by
    intro d
    induction d with
    | zero =>
      intro i hi
      rw [List.drop_of_length_le (by omega)]
      exact Ev.step (f := fun _ => some false) (fun k => by rw [spec_l1Has.l0, if_neg (by omega)]) (Ev.now _)
    | succ d ih =>
      intro i hi
      have e0 : rd l (i : Int) = l[i]'(by omega) := by
        show l.getD ((i : Int)).toNat 0 = _
        rw [Int.toNat_natCast, List.getD_eq_getElem?_getD, List.getElem?_eq_getElem (by omega)]
        rfl
      rw [List.drop_eq_getElem_cons (by omega)]
      by_cases c : l[i]'(by omega) = v
      · rw [decide_eq_true (List.mem_cons.2 (.inl c.symm))]
        exact Ev.step (f := fun _ => some true) (fun k => by rw [spec_l1Has.l0, if_pos (by omega), if_pos (by omega), e0, if_pos c]) (Ev.now _)
      · have h1 := ih (i + 1) (by omega)
        have e : ((i + 1 : Nat) : Int) = (i : Int) + 1 := by omega
        rw [e] at h1
        have e2 : decide (v ∈ l[i]'(by omega) :: l.drop (i + 1)) = decide (v ∈ l.drop (i + 1)) := by
          rw [decide_eq_decide, List.mem_cons]
          exact ⟨fun h => h.resolve_left (fun h => c h.symm), .inr⟩
        rw [e2]
        exact Ev.step (fun k => by rw [spec_l1Has.l0, if_pos (by omega), if_pos (by omega), e0, if_neg c, wrap_id _ (by omega) (by omega)]) h1
  exact key l.length 0 (by omega)
def cnd (S l : List Int) (i : Nat) (a : Int) : Bool := rng a 0 ((l.length : Int) - 1) && decide (S.getD i 0 ≤ l.getD a.toNat 0)
def tak (S l : List Int) (i : Nat) (a : Int) : List Int := l.set a.toNat (l.getD a.toNat 0 - S.getD i 0)
def lft (S : List Int) : Nat → List Int → List Int → Option (List Int)
  | _, l, [] => some l
  | i, l, a :: b => if cnd S l i a then lft S (i + 1) (tak S l i a) b else none
theorem tak_length (S l : List Int) (i : Nat) (a : Int) : (tak S l i a).length = l.length := by unfold tak; rw [List.length_set]
theorem lft_snoc (S : List Int) (x : Int) (b : List Int) : ∀ (i : Nat) (l : List Int), lft S i l (b ++ [x]) = (lft S i l b).bind fun l' => if cnd S l' (i + b.length) x then some (tak S l' (i + b.length) x) else none := by
  induction b with
  | nil => intro i l; rfl
  | cons a b ih =>
    intro i l
    rw [List.cons_append, lft, lft]
    by_cases c : cnd S l i a = true
    · rw [if_pos c, if_pos c, ih, List.length_cons, show i + 1 + b.length = i + (b.length + 1) from by omega]
    · rw [if_neg c, if_neg c]
      rfl
theorem lft_length (S : List Int) (b : List Int) : ∀ (i : Nat) (l l' : List Int), lft S i l b = some l' → l'.length = l.length := by
  induction b with
  | nil => intro i l l' h; rw [← Option.some.inj h]
  | cons a b ih =>
    intro i l l' h
    rw [lft] at h
    split at h
    · rw [ih _ _ _ h, tak_length]
    · cases h
theorem fits_ev (S q b : List Int) (hS : ∀ j : Nat, 0 ≤ S.getD j 0 ∧ S.getD j 0 ≤ 64) (hq : okLots q = true) (hb : b.length ≤ S.length) (h64 : S.length ≤ 64) : Ev (fun k => spec_l12Fits.f k S q b) (lft S 0 q b).isSome := by
  obtain ⟨q1, q2, q3⟩ := okLots_iff q hq
  have key : ∀ (d i : Nat) (u l : List Int), i + d = b.length → u.length = q.length → l.length = q.length → (∀ j : Nat, j < q.length → 0 ≤ u.getD j 0 ∧ u.getD j 0 ≤ q.getD j 0 ∧ l.getD j 0 = q.getD j 0 - u.getD j 0) → Ev (fun k => spec_l12Fits.l0 k S q b u (i : Int)) (lft S i l (b.drop i)).isSome := by
    intro d
    induction d with
    | zero =>
      intro i u l hi _ _ _
      rw [List.drop_eq_nil_of_le (by omega)]
      exact Ev.step (f := fun _ => some true) (fun k => by rw [spec_l12Fits.l0, if_neg (by omega)]) (Ev.now _)
    | succ d ih =>
      intro i u l hi u1 v1 huv
      obtain ⟨a, ha⟩ : ∃ a, a = b.getD i 0 := ⟨_, rfl⟩
      have e0 : rd b (i : Int) = a := by rw [ha]; rfl
      have ea : b[i] = a := by rw [ha, List.getD_eq_getElem?_getD, List.getElem?_eq_getElem (by omega)]; rfl
      have eS : rd S (i : Int) = S.getD i 0 := rfl
      have hSi := hS i
      have w1 : wrap64 ((q.length : Int) - 1) = (q.length : Int) - 1 := wrap_id _ (by omega) (by omega)
      rw [List.drop_eq_getElem_cons (by omega), ea, lft]
      cases hin : rng a 0 ((q.length : Int) - 1) with
      | false =>
        have hc : cnd S l i a = false := by unfold cnd; rw [v1, hin]; rfl
        rw [hc, if_neg (by decide)]
        refine Ev.step (f := fun k => spec_l12Fits.j1 k S q b u i a true) (fun k => ?_) (Ev.step (f := fun _ => some false) (fun k => by rw [spec_l12Fits.j1, if_pos rfl]) (Ev.now _))
        rw [spec_l12Fits.l0, if_pos (by omega), if_pos (by omega), e0, w1, l1In_eq, hin]
        rfl
      | true =>
        have hin2 := (rng_iff _ _ _).1 hin
        obtain ⟨x1, x2, x3⟩ := huv a.toNat (by omega)
        have x4 := q1 a.toNat (by omega)
        have eu : rd u a = u.getD a.toNat 0 := rfl
        have eq : rd q a = q.getD a.toNat 0 := rfl
        have hset : rd (u.set a.toNat (u.getD a.toNat 0 + S.getD i 0)) a = u.getD a.toNat 0 + S.getD i 0 := by
          have : rd (u.set a.toNat (u.getD a.toNat 0 + S.getD i 0)) a = (u.set a.toNat (u.getD a.toNat 0 + S.getD i 0)).getD a.toNat 0 := rfl
          rw [this, getD_set, if_pos ⟨rfl, by omega⟩]
        have hs1 : ∀ k, spec_l12Fits.l0 (k + 1) S q b u (i : Int) = spec_l12Fits.j1 k S q b u i a false := fun k => by
          rw [spec_l12Fits.l0, if_pos (by omega), if_pos (by omega), e0, w1, l1In_eq, hin, Option.bind_some, if_pos rfl, decide_eq_false (show ¬ (i : Int) ≥ (S.length : Int) by omega)]
        have hs2 : ∀ k, spec_l12Fits.j1 (k + 1) S q b u (i : Int) a false = if u.getD a.toNat 0 + S.getD i 0 > q.getD a.toNat 0 then some false else spec_l12Fits.l0 k S q b (u.set a.toNat (u.getD a.toNat 0 + S.getD i 0)) ((i : Int) + 1) := fun k => by
          rw [spec_l12Fits.j1, if_neg (by decide), if_pos (by omega), if_pos (by omega), if_pos (by omega), if_pos (by omega), eu, eS, wrap_id (u.getD a.toNat 0 + S.getD i 0) (by omega) (by omega), Option.bind_some, if_pos (by omega), hset, eq, wrap_id ((i : Int) + 1) (by omega) (by omega)]
        by_cases c : u.getD a.toNat 0 + S.getD i 0 > q.getD a.toNat 0
        · have hc : cnd S l i a = false := by unfold cnd; rw [v1, hin, decide_eq_false (by omega)]; rfl
          rw [hc, if_neg (by decide)]
          exact Ev.step (f := fun k => spec_l12Fits.j1 k S q b u i a false) (fun k => by rw [hs1]) (Ev.step (f := fun _ => some false) (fun k => by rw [hs2, if_pos c]) (Ev.now _))
        · have hc : cnd S l i a = true := by unfold cnd; rw [v1, hin, decide_eq_true (by omega)]; rfl
          rw [hc, if_pos rfl]
          have G := ih (i + 1) (u.set a.toNat (u.getD a.toNat 0 + S.getD i 0)) (tak S l i a) (by omega) (by rw [List.length_set]; exact u1) (by rw [tak_length]; exact v1) (fun j hj => by
            unfold tak
            rw [getD_set, getD_set]
            have := huv j hj
            by_cases e : a.toNat = j
            · subst e
              rw [if_pos ⟨rfl, by omega⟩, if_pos ⟨rfl, by omega⟩]
              omega
            · rw [if_neg (fun h => e h.1), if_neg (fun h => e h.1)]
              exact this)
          rw [show ((i + 1 : Nat) : Int) = (i : Int) + 1 from by omega] at G
          exact Ev.step (f := fun k => spec_l12Fits.j1 k S q b u i a false) (fun k => by rw [hs1]) (Ev.step (fun k => by rw [hs2, if_neg c]) G)
  unfold spec_l12Fits.f
  simp only [if_pos (show 0 ≤ (q.length : Int) by omega), Int.toNat_natCast, if_pos (show q.length ≤ 35184372088832 by omega)]
  refine key b.length 0 _ q (by omega) (by simp) rfl (fun j hj => ?_)
  have := q1 j hj
  have ez : (List.replicate q.length (0 : Int)).getD j 0 = 0 := by rw [List.getD_eq_getElem?_getD, List.getElem?_replicate, if_pos hj]; rfl
  rw [ez]
  omega
def dif : List Int → List Int → Nat
  | _, [] => 0
  | p, x :: r => (if x ∈ p then 0 else 1) + dif (p ++ [x]) r
theorem dif_ev (b : List Int) (hb : b.length ≤ 1000) : Ev (fun k => spec_l12Different.f k b) ((dif [] b : Nat) : Int) := by
  unfold spec_l12Different.f
  have key : ∀ d i c : Nat, i + d = b.length → c ≤ i → Ev (fun k => spec_l12Different.l0 k b (c : Int) (i : Int)) ((c + dif (b.take i) (b.drop i) : Nat) : Int) := by
    intro d
    induction d with
    | zero =>
      intro i c hi hc
      rw [List.drop_eq_nil_of_le (by omega), dif, Nat.add_zero]
      exact Ev.step (f := fun _ => some (c : Int)) (fun k => by rw [spec_l12Different.l0, if_neg (by omega)]) (Ev.now _)
    | succ d ih =>
      intro i c hi hc
      have e0 : rd b (i : Int) = b[i] := by
        show b.getD i 0 = _
        rw [List.getD_eq_getElem?_getD, List.getElem?_eq_getElem (by omega)]; rfl
      have e1 : ((i + 1 : Nat) : Int) = (i : Int) + 1 := by omega
      have h1 := has_ev (b.take i) b[i] (by rw [List.length_take]; omega)
      rw [List.drop_eq_getElem_cons (by omega), dif, ← List.take_succ_eq_append_getElem (by omega)]
      refine Ev.step (f := fun k => (spec_l1Has.f k (b.take i) b[i]).bind _) (fun k => by rw [spec_l12Different.l0, if_pos (by omega), if_pos (by omega), if_pos (by omega), e0, Int.toNat_natCast]) (Ev.bind h1 ?_)
      by_cases c1 : b[i] ∈ b.take i
      · have G := ih (i + 1) c (by omega) (by omega)
        rw [e1] at G
        simp only [decide_eq_true c1, if_true, if_pos c1, Nat.zero_add, wrap_id ((i : Int) + 1) (show -9223372036854775808 ≤ (i : Int) + 1 by omega) (show (i : Int) + 1 ≤ 9223372036854775807 by omega)]
        exact G
      · have G := ih (i + 1) (c + 1) (by omega) (by omega)
        rw [e1, show ((c + 1 : Nat) : Int) = (c : Int) + 1 from by omega] at G
        simp only [decide_eq_false c1, Bool.false_eq_true, if_false, if_neg c1, wrap_id ((i : Int) + 1) (show -9223372036854775808 ≤ (i : Int) + 1 by omega) (show (i : Int) + 1 ≤ 9223372036854775807 by omega), wrap_id ((c : Int) + 1) (show -9223372036854775808 ≤ (c : Int) + 1 by omega) (show (c : Int) + 1 ≤ 9223372036854775807 by omega)]
        rw [← Nat.add_assoc]
        exact G
  have := key b.length 0 0 (by omega) (by omega)
  rw [Nat.zero_add, List.take_zero, List.drop_zero] at this
  exact this
def cn (f : Nat → Bool) : Nat → Nat
  | 0 => 0
  | m + 1 => cn f m + (if f m then 1 else 0)
theorem cn_le (f : Nat → Bool) (m : Nat) : cn f m ≤ m := by
  induction m with
  | zero => exact Nat.le_refl 0
  | succ m ih => rw [cn]; split <;> omega
theorem cn_mono (f g : Nat → Bool) (m : Nat) (h : ∀ j, j < m → f j = true → g j = true) : cn f m ≤ cn g m := by
  induction m with
  | zero => exact Nat.le_refl 0
  | succ m ih =>
    rw [cn, cn]
    have := ih (fun j hj => h j (by omega))
    by_cases c : f m = true
    · rw [if_pos c, if_pos (h m (by omega) c)]; omega
    · rw [if_neg c]; omega
theorem cn_congr (f g : Nat → Bool) (m : Nat) (h : ∀ j, j < m → f j = g j) : cn f m = cn g m :=
  Nat.le_antisymm (cn_mono f g m fun j hj hf => by rw [← h j hj]; exact hf) (cn_mono g f m fun j hj hf => by rw [h j hj]; exact hf)
theorem cn_one (f g : Nat → Bool) (x m : Nat) (hx : x < m) (hf : f x = false) (hg : g x = true) (h : ∀ j, j ≠ x → g j = f j) : cn g m = cn f m + 1 := by
  induction m with
  | zero => exact absurd hx (by omega)
  | succ m ih =>
    rw [cn, cn]
    by_cases c : x = m
    · subst c
      rw [hf, hg, if_pos rfl, if_neg (by decide), cn_congr g f x (fun j hj => h j (by omega))]
    · rw [ih (by omega), h m (fun e => c e.symm)]
      omega
def cnl (m : Nat) (p : List Int) : Nat := cn (fun j => decide ((j : Int) ∈ p)) m
theorem dif_cn (m : Nat) (r : List Int) : ∀ p : List Int, (∀ x ∈ r, 0 ≤ x ∧ x < (m : Int)) → dif p r + cnl m p = cnl m (p ++ r) := by
  induction r with
  | nil => intro p _; rw [List.append_nil, dif, Nat.zero_add]
  | cons x r ih =>
    intro p h
    obtain ⟨x0, x1⟩ := h x (by simp)
    have := ih (p ++ [x]) (fun y hy => h y (List.mem_cons_of_mem _ hy))
    rw [List.append_assoc, List.singleton_append] at this
    rw [dif, ← this]
    unfold cnl
    by_cases c : x ∈ p
    · rw [if_pos c, cn_congr (fun j => decide ((j : Int) ∈ p ++ [x])) (fun j => decide ((j : Int) ∈ p)) m (fun j _ => by
        rw [decide_eq_decide, List.mem_append, List.mem_singleton]
        exact ⟨fun h => h.elim id (fun h => h ▸ c), .inl⟩)]
      omega
    · rw [if_neg c, cn_one (fun j => decide ((j : Int) ∈ p)) (fun j => decide ((j : Int) ∈ p ++ [x])) x.toNat m (by omega) (by rw [show ((x.toNat : Nat) : Int) = x from by omega]; exact decide_eq_false c) (by rw [show ((x.toNat : Nat) : Int) = x from by omega]; simp) (fun j hj => by
        rw [decide_eq_decide, List.mem_append, List.mem_singleton]
        exact ⟨fun h => h.elim id (fun h => absurd h (by omega)), .inl⟩)]
      omega
theorem cnl_nil (m : Nat) : cnl m [] = 0 := by
  unfold cnl
  induction m with
  | zero => rfl
  | succ m ih => rw [cn, ih]; simp
theorem dif_nil (m : Nat) (r : List Int) (h : ∀ x ∈ r, 0 ≤ x ∧ x < (m : Int)) : dif [] r = cnl m r := by
  have := dif_cn m r [] h
  rw [cnl_nil, Nat.add_zero, List.nil_append] at this
  exact this
def srchF (S l b : List Int) (rec : List Int → List Int → Option (List Int)) (i : Nat) : Option (List Int) := if l.getD i 0 < S.getD b.length 0 then none else rec (l.set i (l.getD i 0 - S.getD b.length 0)) (b ++ [(i : Int)])
def srch (S : List Int) (most : Nat) : Nat → List Int → List Int → Option (List Int)
  | 0, _, b => if dif [] b > most then none else some b
  | n + 1, l, b => if dif [] b > most then none else tryL (srchF S l b (srch S most n)) l.length
def rsO : Option (List Int) → List Int × Bool
  | some r => (r, true)
  | none => ([], false)
theorem search_ev (S q : List Int) (most : Nat) (hS : ∀ j : Nat, 0 ≤ S.getD j 0 ∧ S.getD j 0 ≤ 64) (hq : okLots q = true) (h64 : S.length ≤ 64) : ∀ (n : Nat) (l b : List Int), b.length + n = S.length → lft S 0 q b = some l → Ev (fun k => spec_l12Search.f k S q (most : Int) b) (rsO (srch S most n l b)) := by
  obtain ⟨q1, q2, q3⟩ := okLots_iff q hq
  have bad : ∀ b : List Int, b.length ≤ S.length → lft S 0 q b = none → Ev (fun k => spec_l12Search.f k S q (most : Int) b) ([], false) := fun b hb hn => by
    have h1 := fits_ev S q b hS hq hb h64
    rw [hn] at h1
    exact Ev.step (f := fun k => (spec_l12Fits.f k S q b).bind _) (fun k => by rw [spec_l12Search.f]) (Ev.bind h1 (by
      simp only [Option.isSome_none, Bool.false_eq_true, if_false]
      exact Ev.step (f := fun _ => some ([], false)) (fun k => by rw [spec_l12Search.j0, if_pos rfl]) (Ev.now _)))
  intro n
  induction n with
  | zero =>
    intro l b hn hl
    have h1 := fits_ev S q b hS hq (by omega) h64
    rw [hl] at h1
    refine Ev.step (f := fun k => (spec_l12Fits.f k S q b).bind _) (fun k => by rw [spec_l12Search.f]) (Ev.bind h1 ?_)
    simp only [Option.isSome_some, if_true]
    refine Ev.bind (dif_ev b (by omega)) ?_
    by_cases c : dif [] b > most
    · rw [srch, if_pos c, decide_eq_true (show ((dif [] b : Nat) : Int) > (most : Int) by omega)]
      exact Ev.step (f := fun _ => some ([], false)) (fun k => by rw [spec_l12Search.j0, if_pos rfl]) (Ev.now _)
    · rw [srch, if_neg c, decide_eq_false (show ¬ ((dif [] b : Nat) : Int) > (most : Int) by omega)]
      exact Ev.step (f := fun _ => some (b, true)) (fun k => by rw [spec_l12Search.j0, if_neg (by decide), if_pos (by omega)]) (Ev.now _)
  | succ n ih =>
    intro l b hn hl
    have h1 := fits_ev S q b hS hq (by omega) h64
    have hll := lft_length S b 0 q l hl
    rw [hl] at h1
    refine Ev.step (f := fun k => (spec_l12Fits.f k S q b).bind _) (fun k => by rw [spec_l12Search.f]) (Ev.bind h1 ?_)
    simp only [Option.isSome_some, if_true]
    refine Ev.bind (dif_ev b (by omega)) ?_
    by_cases c : dif [] b > most
    · rw [srch, if_pos c, decide_eq_true (show ((dif [] b : Nat) : Int) > (most : Int) by omega)]
      exact Ev.step (f := fun _ => some ([], false)) (fun k => by rw [spec_l12Search.j0, if_pos rfl]) (Ev.now _)
    · rw [srch, if_neg c, decide_eq_false (show ¬ ((dif [] b : Nat) : Int) > (most : Int) by omega)]
      obtain ⟨F, hF⟩ : ∃ F, F = srchF S l b (srch S most n) := ⟨_, rfl⟩
      rw [← hF]
      have key : ∀ d x : Nat, x + d = q.length → tryL F x = none → Ev (fun k => spec_l12Search.l0 k S q (most : Int) b (x : Int)) (rsO (tryL F l.length)) := by
        intro d
        induction d with
        | zero =>
          intro x hx ht
          have : x = l.length := by omega
          rw [← this, ht]
          exact Ev.step (f := fun _ => some ([], false)) (fun k => by rw [spec_l12Search.l0, if_neg (by omega)]) (Ev.now _)
        | succ d ihd =>
          intro x hx ht
          have e1 : ((x + 1 : Nat) : Int) = (x : Int) + 1 := by omega
          have eo : spec_l1Own.f b = some b := by
            unfold spec_l1Own.f
            rw [Option.bind_some, List.length_nil, if_pos (by omega), List.nil_append]
          have hcr : ∀ rr, Ev (fun k => spec_l12Search.f k S q (most : Int) (b ++ [(x : Int)])) (rsO rr) → F x = rr → Ev (fun k => spec_l12Search.l0 k S q (most : Int) b (x : Int)) (rsO (tryL F l.length)) := fun rr hrr hFx => by
            refine Ev.step (f := fun k => (spec_l12Search.f k S q (most : Int) (b ++ [(x : Int)])).bind _) (fun k => by rw [spec_l12Search.l0, if_pos (by omega), eo, Option.bind_some, if_pos (by omega)]) (Ev.bind hrr ?_)
            cases rr with
            | none =>
              have G := ihd (x + 1) (by omega) (tryL_none F x ht hFx)
              rw [e1] at G
              simp only [rsO, Bool.false_eq_true, if_false, wrap_id ((x : Int) + 1) (show -9223372036854775808 ≤ (x : Int) + 1 by omega) (show (x : Int) + 1 ≤ 9223372036854775807 by omega)]
              exact G
            | some r =>
              rw [tryL_hit F x r ht hFx l.length (by omega)]
              exact Ev.now _
          have hsn := lft_snoc S (x : Int) b 0 q
          rw [hl, Option.bind_some, Nat.zero_add] at hsn
          have hrg : rng (x : Int) 0 ((l.length : Int) - 1) = true := (rng_iff _ _ _).2 (by omega)
          by_cases cc : l.getD x 0 < S.getD b.length 0
          · have hc : cnd S l b.length (x : Int) = false := by unfold cnd; rw [hrg, Int.toNat_natCast, decide_eq_false (by omega)]; rfl
            rw [hc, if_neg (by decide)] at hsn
            exact hcr none (bad _ (by rw [List.length_append, List.length_singleton]; omega) hsn) (by rw [hF]; unfold srchF; rw [if_pos cc])
          · have hc : cnd S l b.length (x : Int) = true := by unfold cnd; rw [hrg, Int.toNat_natCast, decide_eq_true (by omega)]; rfl
            rw [hc, if_pos rfl] at hsn
            unfold tak at hsn
            rw [Int.toNat_natCast] at hsn
            exact hcr _ (ih _ (b ++ [(x : Int)]) (by rw [List.length_append, List.length_singleton]; omega) hsn) (by rw [hF]; unfold srchF; rw [if_neg cc])
      have G := key q.length 0 (by omega) rfl
      exact Ev.step (fun k => by rw [spec_l12Search.j0, if_neg (by decide), if_neg (by omega)]; rfl) G
theorem tryL_congr (f g : Nat → Option (List Int)) (n : Nat) (h : ∀ i, i < n → f i = g i) : tryL f n = tryL g n := by
  induction n with
  | zero => rfl
  | succ n ih => rw [tryL, tryL, ih (fun i hi => h i (by omega)), h n (by omega)]
theorem srch_asg (S : List Int) (most : Nat) : ∀ (n : Nat) (l b : List Int), l.length ≤ most → (∀ x ∈ b, 0 ≤ x ∧ x < (l.length : Int)) → srch S most n l b = asg S n l b := by
  intro n
  induction n with
  | zero =>
    intro l b hm hb
    have := cn_le (fun j => decide ((j : Int) ∈ b)) l.length
    have h2 := dif_nil l.length b hb
    unfold cnl at h2
    rw [srch, asg, if_neg (by omega)]
  | succ n ih =>
    intro l b hm hb
    have := cn_le (fun j => decide ((j : Int) ∈ b)) l.length
    have h2 := dif_nil l.length b hb
    unfold cnl at h2
    rw [srch, asg, if_neg (by omega)]
    refine tryL_congr _ _ _ fun i hi => ?_
    unfold srchF asgF
    by_cases c : l.getD i 0 < S.getD b.length 0
    · rw [if_pos c, if_pos c]
    · rw [if_neg c, if_neg c, ih _ _ (by rw [List.length_set]; exact hm) (fun x hx => by
        rw [List.length_set]
        rcases List.mem_append.1 hx with hx | hx
        · exact hb x hx
        · rw [List.mem_singleton.1 hx]; omega)]
theorem hasFew_ev (w h : Int) (l : List Int) (c : Int) (q : List Int) (S : List Int) (hS : okChart w h l = true → Ev (fun k => impl_Chart_sizesOf.f k w h l c) S) : Ev (fun k => impl_hasFewAreas.f k w h l c q) ((okChart w h l && (rng c 0 5 && okLots q)) && decide ((S.length : Int) ≤ 8)) := by
  unfold impl_hasFewAreas.f
  simp only [IsChart_eq, isColor_eq, areLots_eq, Option.bind_some]
  cases hk : okChart w h l with
  | false => exact Ev.now _
  | true =>
    cases rng c 0 5 with
    | false => exact Ev.now _
    | true =>
      cases okLots q with
      | false => exact Ev.now _
      | true => simp only [if_true, Bool.true_and]; exact Ev.bind (hS hk) (Ev.now _)
theorem asg_length (S : List Int) : ∀ (n : Nat) (l b r : List Int), asg S n l b = some r → r.length = b.length + n := by
  intro n
  induction n with
  | zero => intro l b r h; rw [← Option.some.inj h, Nat.add_zero]
  | succ n ih =>
    intro l b r h
    rw [asg] at h
    have key : ∀ m : Nat, tryL (asgF S l b (asg S n)) m = some r → r.length = b.length + (n + 1) := by
      intro m
      induction m with
      | zero => intro h; cases h
      | succ m ihm =>
        intro h
        rw [tryL] at h
        cases ht : tryL (asgF S l b (asg S n)) m with
        | some r' =>
          rw [ht] at h
          replace h : some r' = some r := h
          obtain rfl := Option.some.inj h
          exact ihm ht
        | none =>
          rw [ht] at h
          replace h : asgF S l b (asg S n) m = some r := h
          unfold asgF at h
          split at h
          · cases h
          · have := ih _ _ _ h
            rw [List.length_append, List.length_singleton] at this
            omega
    exact key _ h
theorem FirstAssignment_same (w h : Int) (l : List Int) (c : Int) (q : List Int) (hl : l.length ≤ 2000000) (hq : q.length ≤ 2000000) : ∃ r : List Int × Bool, r.1.length ≤ 64 ∧ Ev (fun k => spec_FirstAssignment.f k w h l c q) r ∧ Ev (fun k => impl_FirstAssignment.f k w h l c q) r := by
  unfold spec_FirstAssignment.f impl_FirstAssignment.f
  have hs := specAsked_ev w h l c q hl hq
  have hj0 : Ev (fun k => spec_FirstAssignment.j0 k c q true w h l) ([], false) := Ev.step (f := fun _ => some ([], false)) (fun k => by rw [spec_FirstAssignment.j0, if_pos rfl]) (Ev.now _)
  cases hk : (okChart w h l && (rng c 0 5 && okLots q)) with
  | false =>
    have h0 : ∃ S : List Int, okChart w h l = true → Ev (fun k => impl_Chart_sizesOf.f k w h l c) S := by
      cases hc : okChart w h l with
      | false => exact ⟨[], fun h => by cases h⟩
      | true =>
        obtain ⟨S, _, _, hb⟩ := sizesOf_same w h l hc c
        exact ⟨S, fun _ => hb⟩
    obtain ⟨S, hS⟩ := h0
    have h1 := hasFew_ev w h l c q S hS
    rw [hk] at hs h1
    exact ⟨([], false), by simp, Ev.bind hs (by simp only [Bool.false_eq_true, if_false]; exact hj0), Ev.bind h1 (by simp only [Bool.false_and, Bool.false_eq_true, if_false]; exact Ev.now _)⟩
  | true =>
    rw [hk] at hs
    have hok := hk
    rw [Bool.and_eq_true, Bool.and_eq_true] at hok
    obtain ⟨S, ⟨z1, z2⟩, ha, hb⟩ := sizesOf_same w h l hok.1 c
    have h1 := hasFew_ev w h l c q S (fun _ => hb)
    rw [hk] at h1
    obtain ⟨q1, q2, q3⟩ := okLots_iff q hok.2.2
    by_cases h8 : (S.length : Int) ≤ 8
    · rw [decide_eq_true h8] at h1
      have h2 := search_ev S q q.length z2 hok.2.2 z1 S.length q [] (by rw [List.length_nil]; omega) rfl
      rw [srch_asg S q.length S.length q [] (Nat.le_refl _) (fun x hx => by cases hx)] at h2
      have h3 : rsO (asg S S.length q []) = firstOfA S q := by unfold firstOfA; cases asg S S.length q [] <;> rfl
      rw [h3] at h2
      have hlen : (firstOfA S q).1.length ≤ 64 := by
        unfold firstOfA
        cases hr : asg S S.length q [] with
        | none => simp
        | some r =>
          have := asg_length S _ _ _ _ hr
          rw [List.length_nil] at this
          show r.length ≤ 64
          omega
      refine ⟨firstOfA S q, hlen, Ev.bind hs ?_, Ev.bind h1 ?_⟩
      · simp only [if_true]
        refine Ev.bind ha ?_
        rw [decide_eq_false (show ¬ (S.length : Int) > 8 by omega)]
        exact Ev.step (f := fun k => (spec_l12Color.f k w h l c).bind _) (fun k => by rw [spec_FirstAssignment.j0, if_neg (by decide)]) (Ev.bind ha (Ev.bind h2 (Ev.now _)))
      · simp only [Bool.and_self, if_true]
        refine Ev.bind hb ?_
        have hm : ∀ (L : List Int) (B : Int), (∀ i, i < L.length → 0 ≤ L.getD i 0 ∧ L.getD i 0 ≤ 100) → ∀ x ∈ L, 0 ≤ x ∧ x ≤ 1000000 := fun L _ hL x hx => by
          obtain ⟨i, hi, rfl⟩ := List.getElem_of_mem hx
          have := hL i hi
          rw [List.getD_eq_getElem?_getD, List.getElem?_eq_getElem hi, Option.getD_some] at this
          omega
        have hg : (1 ≤ q.length ∧ q.length ≤ 100 ∧ S.length ≤ 100) ∧ (∀ x ∈ S, 0 ≤ x ∧ x ≤ 1000000) ∧ (∀ x ∈ q, 0 ≤ x ∧ x ≤ 1000000) := ⟨⟨by omega, by omega, by omega⟩, hm S 0 (fun i hi => by have := z2 i; omega), hm q 0 (fun i hi => by have := q1 i hi; omega)⟩
        rw [if_pos hg]
        exact Ev.now _
    · rw [decide_eq_false h8] at h1
      refine ⟨([], false), by simp, Ev.bind hs ?_, Ev.bind h1 ?_⟩
      · simp only [if_true]
        refine Ev.bind ha ?_
        rw [decide_eq_true (show (S.length : Int) > 8 by omega)]
        exact hj0
      · simp only [Bool.and_false, Bool.false_eq_true, if_false]
        exact Ev.now _
theorem eqInts_ev (t : List Int) (ht : t.length ≤ 2000000) : Ev (fun k => laws_eqIntS.f k t t) true := by
  refine Ev.congr (f := fun k => laws_eqIntS.l0 k t t 0) (fun k => by unfold laws_eqIntS.f; rw [if_pos rfl]) ?_
  obtain ⟨r, hr, h⟩ := Ev.loopE (fun k i (_ : Unit) => laws_eqIntS.l0 k t t i) t.length (fun _ _ => True) (fun r => r = true)
    (fun s _ => ⟨true, rfl, Ev.step (fun k => by rw [laws_eqIntS.l0, if_neg (by omega)]) (Ev.now true)⟩)
    (fun i s hi _ => ⟨(), trivial, fun r h => Ev.step (fun k => by
      rw [laws_eqIntS.l0, if_pos (by omega), if_pos (by omega), if_pos (by omega), if_pos rfl, wrap_id _ (by omega) (by omega)]) h⟩) () trivial
  subst hr
  exact h
theorem eqChart_ev (w h : Int) (t : List Int) (hl : t.length ≤ 2000000) : Ev (fun k => laws_eqChart.f k w h t w h t) true := by
  unfold laws_eqChart.f
  simp only [if_true]
  exact Ev.bind (eqInts_ev t hl) (by simp only [if_true]; exact Ev.now _)
theorem held_ev (t : List Int) (ht : t.length ≤ 2000000) (h1 : ∀ j : Nat, j < t.length → t.getD j 0 = 1 + (j : Int)) : Ev (fun k => laws_heldIntS.f k t 1) (1 + (t.length : Int)) := by
  unfold laws_heldIntS.f
  obtain ⟨r, hr, h⟩ := Ev.loopE (fun k i (q : Int) => laws_heldIntS.l0 k t q i) t.length (fun i q => q = 1 + (i : Int)) (fun r => r = 1 + (t.length : Int))
    (fun s hs => ⟨s, hs, Ev.step (fun k => by rw [laws_heldIntS.l0, if_neg (by omega)]) (Ev.now s)⟩)
    (fun i s hi hs => ⟨s + 1, by omega, fun r h => Ev.step (fun k => by
      have hx : rd t (i : Int) = s := by rw [hs]; exact h1 i hi
      rw [laws_heldIntS.l0, if_pos (by omega), if_pos (by omega), if_pos hx, wrap_id _ (by omega) (by omega), wrap_id _ (by omega) (by omega)]) h⟩) 1 (by omega)
  subst hr
  exact h
theorem mark_ev (t : List Int) (ht : t.length ≤ 2000000) : ∃ t' : List Int, Ev (fun k => laws_markIntS.f k t 1) (1 + (t.length : Int), t') ∧ Ev (fun k => laws_heldIntS.f k t' 1) (1 + (t.length : Int)) := by
  unfold laws_markIntS.f
  obtain ⟨⟨m, t'⟩, ⟨hm, hl, hj⟩, h⟩ := Ev.loopE (fun k i (q : Int × List Int) => laws_markIntS.l0 k q.2 q.1 i) t.length
    (fun i q => q.1 = 1 + (i : Int) ∧ q.2.length = t.length ∧ ∀ j : Nat, j < i → q.2.getD j 0 = 1 + (j : Int)) (fun r => r.1 = 1 + (t.length : Int) ∧ r.2.length = t.length ∧ ∀ j : Nat, j < t.length → r.2.getD j 0 = 1 + (j : Int))
    (fun s hs => ⟨s, hs, Ev.step (fun k => by rw [laws_markIntS.l0, if_neg (by omega)]) (Ev.now s)⟩)
    (fun i s hi hs => ⟨(s.1 + 1, s.2.set i s.1), ⟨by have := hs.1; simp only; omega, by simp [hs.2.1], fun j hj => by
        have h2 := hs.2.1
        simp only [getD_set]
        by_cases e : i = j
        · subst e; rw [if_pos ⟨rfl, by omega⟩]; exact hs.1
        · rw [if_neg (fun h => e h.1)]; exact hs.2.2 j (by omega)⟩, fun r h => Ev.step (fun k => by
      have h1 := hs.1
      have h2 := hs.2.1
      rw [laws_markIntS.l0, if_pos (by omega), if_pos (by omega), wrap_id _ (by omega) (by omega), wrap_id _ (by omega) (by omega), Int.toNat_natCast]) h⟩) (1, t) ⟨by simp, rfl, fun j hj => absurd hj (by omega)⟩
  simp only at hm hl hj
  subst hm
  refine ⟨t', h, ?_⟩
  have := held_ev t' (by omega) (fun j hjj => hj j (by omega))
  rw [hl] at this
  exact this
theorem markChart_evB (w h : Int) (t : List Int) (hl : t.length ≤ 2000000) : ∃ (t' : List Int), Ev (fun k => laws_markChart.f k w h t 1) (1 + (t.length : Int), t') := by
  obtain ⟨t', h1, _⟩ := mark_ev t hl
  exact ⟨t', by unfold laws_markChart.f; exact Ev.bind h1 (Ev.now _)⟩
theorem mark0_ev (t : List Int) (m0 : Int) (hm0 : 0 ≤ m0) (hm1 : m0 ≤ 4000000) (ht : t.length ≤ 2000000) : ∃ (m : Int) (t' : List Int), 0 ≤ m ∧ Ev (fun k => laws_markIntS.f k t m0) (m, t') := by
  unfold laws_markIntS.f
  obtain ⟨⟨m, t'⟩, hm, h⟩ := Ev.loopE (fun k i (q : Int × List Int) => laws_markIntS.l0 k q.2 q.1 i) t.length
    (fun i q => q.1 = m0 + (i : Int) ∧ q.2.length = t.length) (fun r => 0 ≤ r.1)
    (fun s hs => ⟨s, by omega, Ev.step (fun k => by rw [laws_markIntS.l0, if_neg (by omega)]) (Ev.now s)⟩)
    (fun i s hi hs => ⟨(s.1 + 1, s.2.set i s.1), ⟨by have := hs.1; simp only; omega, by simp [hs.2]⟩, fun r h => Ev.step (fun k => by
      have h1 := hs.1
      have h2 := hs.2
      rw [laws_markIntS.l0, if_pos (by omega), if_pos (by omega), wrap_id _ (by omega) (by omega), wrap_id _ (by omega) (by omega), Int.toNat_natCast]) h⟩) (m0, t) ⟨by simp, rfl⟩
  exact ⟨m, t', hm, h⟩
theorem FnExactFirstAssignment (a0_0 : Int) (a0_1 : Int) (l0_2 : List (Int)) (a1 : Int) (l2 : List (Int)) (q_a0_0 : (Lit.int .i64 a0_0).wf = true) (q_a0_1 : (Lit.int .i64 a0_1).wf = true) (q_l0_2 : (l0_2.length ≤ maxLen ∧ ∀ q ∈ l0_2, (Lit.int .i64 q).wf = true)) (q_a1 : (Lit.int .i64 a1).wf = true) (q_l2 : (l2.length ≤ maxLen ∧ ∀ q ∈ l2, (Lit.int .i64 q).wf = true)) : ∃ k, laws_FnExactFirstAssignment.f k a0_0 a0_1 l0_2 a1 l2 = some true := by
  by_cases m2 : (l2.length : Int) > 1048576
  · refine ⟨0, ?_⟩
    unfold laws_FnExactFirstAssignment.f
    rw [if_pos m2]
  by_cases hl : (l0_2.length : Int) ≤ 1048576
  · obtain ⟨t, ht, K1, h1⟩ := toChart_ev a0_0 a0_1 l0_2 (by omega)
    obtain ⟨q, hq, K5, h5⟩ := toInts_ev l2 (by omega)
    obtain ⟨r, hr, ⟨K2, h2⟩, K3, h3⟩ := FirstAssignment_same a0_0 a0_1 t a1 q (by omega) (by omega)
    obtain ⟨K4, h4⟩ := eqChart_ev a0_0 a0_1 t (by omega)
    obtain ⟨K6, h6⟩ := eqInts_ev r.1 (by omega)
    obtain ⟨K7, h7⟩ := eqInts_ev q (by omega)
    obtain ⟨g', ⟨K8, h8⟩, K9, h9⟩ := mark_ev r.1 (by omega)
    obtain ⟨t', K10, h10⟩ := markChart_evB a0_0 a0_1 t (by omega)
    obtain ⟨m, q', hm, K11, h11⟩ := mark0_ev q (1 + (t.length : Int)) (by omega) (by omega) (by omega)
    obtain ⟨N, hN⟩ : ∃ N, N = K1 + K2 + K3 + K4 + K5 + K6 + K7 + K8 + K9 + K10 + K11 := ⟨_, rfl⟩
    replace h1 := fun j => h1 (N + j) (by omega)
    replace h2 := fun j => h2 (N + j) (by omega)
    replace h3 := fun j => h3 (N + j) (by omega)
    replace h4 := fun j => h4 (N + j) (by omega)
    replace h5 := fun j => h5 (N + j) (by omega)
    replace h6 := fun j => h6 (N + j) (by omega)
    replace h7 := fun j => h7 (N + j) (by omega)
    replace h8 := fun j => h8 (N + j) (by omega)
    replace h9 := fun j => h9 (N + j) (by omega)
    replace h10 := fun j => h10 (N + j) (by omega)
    replace h11 := fun j => h11 (N + j) (by omega)
    dsimp only at h1 h2 h3 h4 h5 h6 h7 h8 h9 h10 h11
    refine ⟨N + 5, ?_⟩
    have n1 : ¬ m < 0 := by omega
    have n2 : ¬ 1 + (r.1.length : Int) < 0 := by omega
    unfold laws_FnExactFirstAssignment.f
    rw [if_neg m2, szChart2 a0_0 a0_1 l0_2 hl, Option.bind_some, if_neg (by omega)]
    simp only [h1, h2, h3, h4, h5, h6, h7, h8, h9, h10, h11, n1, n2, laws_FnExactFirstAssignment.j0, laws_FnExactFirstAssignment.j1, laws_FnExactFirstAssignment.j2, Option.bind_some, if_true, if_false, bne_self_eq_false, Bool.false_eq_true]
  · refine ⟨0, ?_⟩
    unfold laws_FnExactFirstAssignment.f
    rw [if_neg m2, szChart1 a0_0 a0_1 l0_2 hl q_l0_2.1]
    rfl
end Go.Proofs.Ytaadbpibmlnncaa.Pure
