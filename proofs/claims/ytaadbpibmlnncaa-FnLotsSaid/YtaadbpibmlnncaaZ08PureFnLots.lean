/- The plain law of FnLots: what the program's functions compute is what the reference's compute. No program and no memory in it. -/
import Derived.Test.YtaadbpibmlnncaaZ08Hx11
import Derived.Test.YtaadbpibmlnncaaZ08Lps
namespace Go.Proofs.Ytaadbpibmlnncaa.Pure
open Go.RowKit Go.Proofs.YtaadbpibmlnncaaW.PrintWords Go.Proofs.YtaadbpibmlnncaaW.PrintLast Go.Proofs.Ytaadbpibmlnncaa.H
set_option linter.unusedVariables false
set_option linter.unusedSimpArgs false
theorem Ev.foldK {σ ρ : Type} (g : Nat → Int → σ → Option ρ) (n : Nat) (f : Nat → σ → σ) (Inv : Nat → σ → Prop) (r : ρ)
    (hstep : ∀ (i : Nat) s, i < n → Inv i s → Inv (i + 1) (f i s) ∧ (Ev (fun k => g k ((i : Int) + 1) (f i s)) r → Ev (fun k => g k (i : Int) s) r))
    (s : σ) (h0 : Inv 0 s) (hend : Ev (fun k => g k (n : Int) (loopN f n s)) r) : Ev (fun k => g k 0 s) r := by
  have key : ∀ i, i ≤ n → Inv i (loopN f i s) ∧ (Ev (fun k => g k (i : Int) (loopN f i s)) r → Ev (fun k => g k 0 s) r) := by
    intro i
    induction i with
    | zero => exact fun _ => ⟨h0, fun h => h⟩
    | succ i ih =>
      intro hi
      obtain ⟨h1, h2⟩ := ih (by omega)
      obtain ⟨h3, h4⟩ := hstep i _ (by omega) h1
      refine ⟨h3, fun h => h2 (h4 ?_)⟩
      have e : ((i + 1 : Nat) : Int) = (i : Int) + 1 := by omega
      rw [e] at h
      exact h
  exact (key n (Nat.le_refl _)).2 hend
theorem loopN_inv {σ : Type} (f : Nat → σ → σ) (Inv : Nat → σ → Prop) (n : Nat) (hstep : ∀ i s, i < n → Inv i s → Inv (i + 1) (f i s)) (s : σ) (h0 : Inv 0 s) : Inv n (loopN f n s) := by
  have key : ∀ i, i ≤ n → Inv i (loopN f i s) := by
    intro i
    induction i with
    | zero => exact fun _ => h0
    | succ i ih => exact fun hi => hstep i _ (by omega) (ih (by omega))
  exact key n (Nat.le_refl _)
theorem l1In_eq (a b c : Int) : spec_l1In.f a b c = some (rng a b c) := spec_l1In.eq a b c
theorem in_eq (a b c : Int) : impl_in.f a b c = some (rng a b c) := impl_in.eq a b c
def okChart (w h : Int) (l : List Int) : Bool := (l.all fun x => rng x 0 5) && (rng w 1 8 && (rng h 1 8 && ((l.length : Int) == wrap64 (w * h))))
theorem okChart_iff (w h : Int) (l : List Int) (hk : okChart w h l = true) : (∀ i, i < l.length → 0 ≤ l.getD i 0 ∧ l.getD i 0 ≤ 5) ∧ (1 ≤ w ∧ w ≤ 8) ∧ (1 ≤ h ∧ h ≤ 8) ∧ (l.length : Int) = w * h ∧ l.length ≤ 64 := by
  unfold okChart at hk
  simp only [Bool.and_eq_true, rng_iff, beq_iff_eq] at hk
  obtain ⟨h1, h2, h3, h4⟩ := hk
  have p0 : 0 ≤ w * h := Int.mul_nonneg (by omega) (by omega)
  have p1 : w * h ≤ 8 * 8 := Int.mul_le_mul h2.2 h3.2 (by omega) (by omega)
  rw [wrap_id _ (by omega) (by omega)] at h4
  refine ⟨fun i hi => ?_, h2, h3, h4, by omega⟩
  have := (all_getD 0 l _).1 h1 i hi
  exact (rng_iff _ _ _).1 this
theorem l2Good_ev (w h : Int) (l : List Int) (hl : l.length ≤ 2000000) : Ev (fun k => spec_l2Good.f k w h l) (okChart w h l) := by
  unfold spec_l2Good.f
  have e : okChart w h l = ((List.range l.length).all (fun i => rng (l.getD i 0) 0 5) && (rng w 1 8 && (rng h 1 8 && ((l.length : Int) == wrap64 (w * h))))) := by
    unfold okChart
    congr 1
    rw [Bool.eq_iff_iff, all_getD 0, all_range]
  rw [e]
  refine Ev.scan (fun k i => spec_l2Good.l0 k i w h l) l.length _ _ (Ev.step (f := fun _ => some _) (fun k => ?_) (Ev.now _)) ?_ ?_
  · rw [spec_l2Good.l0, if_neg (by omega)]
    unfold spec_l2Side.f
    simp only [l1In_eq, Option.bind_some]
    cases rng w 1 8 <;> cases rng h 1 8 <;> rfl
  · intro i hi hg
    refine Ev.step (f := fun _ => some false) (fun k => ?_) (Ev.now _)
    rw [spec_l2Good.l0, if_pos (by omega), if_pos (by omega)]
    unfold spec_l2Color.f
    have e0 : rd l (i : Int) = l.getD i 0 := rfl
    rw [l1In_eq, e0, hg]
    rfl
  · intro i r hi hg hr
    refine Ev.step (fun k => ?_) hr
    rw [spec_l2Good.l0, if_pos (by omega), if_pos (by omega)]
    unfold spec_l2Color.f
    have e0 : rd l (i : Int) = l.getD i 0 := rfl
    rw [l1In_eq, e0, hg, wrap_id _ (by omega) (by omega)]
    rfl
theorem IsChart_eq (w h : Int) (l : List Int) : impl_IsChart.f w h l = some (okChart w h l) := by
  unfold impl_IsChart.f impl_isSide.f areAll_impl_isColor.f okChart
  simp only [in_eq, Option.bind_some]
  by_cases e : (l.length : Int) = wrap64 (w * h)
  · rw [if_pos e, beq_iff_eq.2 e]
    cases rng w 1 8 <;> cases rng h 1 8 <;> simp
  · rw [if_neg e, beq_eq_false_iff_ne.2 e]
    cases rng w 1 8 <;> cases rng h 1 8 <;> simp
def nb (w h r c : Int) : List Int := (if r > 0 then [r * w + c - w] else []) ++ ((if c > 0 then [r * w + c - 1] else []) ++ ((if c < w - 1 then [r * w + c + 1] else []) ++ (if r < h - 1 then [r * w + c + w] else [])))
theorem nb_length (w h r c : Int) : (nb w h r c).length ≤ 4 := by
  unfold nb
  split <;> split <;> split <;> split <;> simp
theorem place_split (w h p : Int) (hw : 1 ≤ w ∧ w ≤ 8) (hh : 1 ≤ h ∧ h ≤ 8) (h0 : 0 ≤ p) (h1 : p < w * h) : Int.tdiv p w = p / w ∧ Int.tmod p w = p % w ∧ p = p / w * w + p % w ∧ 0 ≤ p / w ∧ p / w < h ∧ 0 ≤ p % w ∧ p % w < w ∧ p / w * w ≤ 64 := by
  have a := Int.tdiv_eq_ediv_of_nonneg (b := w) h0
  have b := Int.tmod_eq_emod_of_nonneg (b := w) h0
  have c := Int.mul_ediv_add_emod p w
  have d := Int.emod_nonneg p (show w ≠ 0 by omega)
  have e := Int.emod_lt_of_pos p (show 0 < w by omega)
  have f : 0 ≤ p / w := Int.ediv_nonneg h0 (by omega)
  have g : p / w < h := Int.ediv_lt_of_lt_mul (by omega) (by rw [Int.mul_comm]; exact h1)
  have k : p / w * w ≤ 7 * 8 := Int.mul_le_mul (by omega) hw.2 (by omega) (by omega)
  rw [Int.mul_comm] at c
  omega
theorem nb_bd (w h r c : Int) (hw : 1 ≤ w ∧ w ≤ 8) (hh : 1 ≤ h ∧ h ≤ 8) (hr : 0 ≤ r ∧ r < h) (hc : 0 ≤ c ∧ c < w) : ∀ q ∈ nb w h r c, 0 ≤ q ∧ q < w * h := by
  intro q hq
  have m1 : 0 ≤ r * w := Int.mul_nonneg hr.1 (by omega)
  have m2 : r * w ≤ (h - 1) * w := Int.mul_le_mul_of_nonneg_right (by omega) (by omega)
  have m3 : (h - 1) * w + w = w * h := by rw [Int.sub_mul, Int.one_mul, Int.mul_comm]; omega
  unfold nb at hq
  rw [List.mem_append, List.mem_append, List.mem_append] at hq
  rcases hq with hq | hq | hq | hq
  · split at hq
    · rw [List.mem_singleton.1 hq]
      have : 1 * w ≤ r * w := Int.mul_le_mul_of_nonneg_right (by omega) (by omega)
      omega
    · cases hq
  · split at hq
    · rw [List.mem_singleton.1 hq]; omega
    · cases hq
  · split at hq
    · rw [List.mem_singleton.1 hq]; omega
    · cases hq
  · split at hq
    · rw [List.mem_singleton.1 hq]
      have : r * w ≤ (h - 2) * w := Int.mul_le_mul_of_nonneg_right (by omega) (by omega)
      have e : (h - 2) * w = (h - 1) * w - w := by rw [Int.sub_mul, Int.sub_mul, Int.one_mul]; omega
      omega
    · cases hq
theorem hasPlace_eq (w h : Int) (l : List Int) (hk : okChart w h l = true) (r c : Int) : impl_Chart_hasPlace.f w h l r c = some (rng r 0 (h - 1) && rng c 0 (w - 1)) := by
  obtain ⟨_, hw, hh, hlen, h64⟩ := okChart_iff w h l hk
  unfold impl_Chart_hasPlace.f
  simp only [in_eq, Option.bind_some]
  rw [wrap_id (h - 1) (by omega) (by omega), wrap_id (w - 1) (by omega) (by omega)]
  cases rng r 0 (h - 1) <;> rfl
theorem Next_ev (w h : Int) (l : List Int) (p : Int) (hw : 1 ≤ w ∧ w ≤ 8) (hh : 1 ≤ h ∧ h ≤ 8) (h0 : 0 ≤ p) (h1 : p < w * h) (h64 : w * h ≤ 64) : Ev (fun k => spec_l12Next.f k w h l p) (nb w h (p / w) (p % w)) := by
  obtain ⟨a, b, c, d, e, f, g, i⟩ := place_split w h p hw hh h0 h1
  refine ⟨2, fun k hk => ?_⟩
  obtain ⟨k, rfl⟩ : ∃ m, k = m + 2 := ⟨k - 2, by omega⟩
  dsimp only
  unfold spec_l12Next.f
  rw [if_neg (by omega), a, b]
  obtain ⟨r, hr⟩ : ∃ r, r = p / w := ⟨_, rfl⟩
  obtain ⟨q, hq⟩ : ∃ q, q = p % w := ⟨_, rfl⟩
  rw [← hr] at c d e i ⊢
  rw [← hq] at c f g ⊢
  rw [wrap_id r (by omega) (by omega)]
  simp only [Option.bind_some, spec_l12Next.j0, spec_l12Next.j1]
  rw [wrap_id (w - 1) (by omega) (by omega), wrap_id (h - 1) (by omega) (by omega), wrap_id (p - w) (by omega) (by omega), wrap_id (p - 1) (by omega) (by omega), wrap_id (p + 1) (by omega) (by omega), wrap_id (p + w) (by omega) (by omega)]
  unfold nb
  rw [← c]
  by_cases q1 : r > 0 <;> by_cases q2 : q > 0 <;> by_cases q3 : q < w - 1 <;> by_cases q4 : r < h - 1 <;> simp [q1, q2, q3, q4]
abbrev DD : List S82 := [⟨-1, 0⟩, ⟨0, -1⟩, ⟨0, 1⟩, ⟨1, 0⟩]
theorem besides_step (w h : Int) (l : List Int) (hk : okChart w h l = true) (p r c : Int) (s : List Int) (hs : s.length ≤ 10) (j : Nat) (hj : j < 4) (dr dc : Int) (e1 : (rd_T82 DD (j : Int)).f0 = dr) (e2 : (rd_T82 DD (j : Int)).f1 = dc) (b1 : -1 ≤ dr ∧ dr ≤ 1) (b2 : -1 ≤ dc ∧ dc ≤ 1) (hp : 0 ≤ p ∧ p ≤ 64) (hr : 0 ≤ r ∧ r ≤ 8) (hc : 0 ≤ c ∧ c ≤ 8) (v : List Int)
    (h1 : Ev (fun k => impl_Chart_besides.l0 k p (if (rng (r + dr) 0 (h - 1) && rng (c + dc) 0 (w - 1)) = true then s ++ [p + dr * w + dc] else s) r c DD 4 ((j : Int) + 1) w h l) v) : Ev (fun k => impl_Chart_besides.l0 k p s r c DD 4 (j : Int) w h l) v := by
  obtain ⟨_, hw, hh, hlen, h64⟩ := okChart_iff w h l hk
  have hd : -8 ≤ dr * w ∧ dr * w ≤ 8 := by
    rcases (by omega : dr = -1 ∨ dr = 0 ∨ dr = 1) with rfl | rfl | rfl <;> omega
  refine Ev.step (fun k => ?_) h1
  have el : (DD.length : Int) = 4 := rfl
  rw [impl_Chart_besides.l0, if_pos (by omega), if_pos (by omega), if_pos (by omega), e1, e2, wrap_id (r + dr) (by omega) (by omega), wrap_id (c + dc) (by omega) (by omega), hasPlace_eq w h l hk, Option.bind_some, wrap_id (dr * w) (by omega) (by omega), wrap_id (p + dr * w) (by omega) (by omega), wrap_id (p + dr * w + dc) (by omega) (by omega), wrap_id ((j : Int) + 1) (by omega) (by omega)]
  split
  · rw [if_pos (by omega)]
  · rfl
theorem besides_ev (w h : Int) (l : List Int) (hk : okChart w h l = true) (p : Int) (h0 : 0 ≤ p) (h1 : p < w * h) : Ev (fun k => impl_Chart_besides.f k w h l p) (nb w h (p / w) (p % w)) := by
  obtain ⟨_, hw, hh, hlen, h64⟩ := okChart_iff w h l hk
  obtain ⟨a, b, c, d, e, f, g, i⟩ := place_split w h p hw hh h0 h1
  unfold impl_Chart_besides.f
  simp only [if_neg (show ¬ w = 0 by omega), a, b, Option.bind_some]
  obtain ⟨r, hr⟩ : ∃ r, r = p / w := ⟨_, rfl⟩
  obtain ⟨q, hq⟩ : ∃ q, q = p % w := ⟨_, rfl⟩
  rw [← hr] at c d e i
  rw [← hq] at c f g
  rw [← hr, ← hq]
  rw [wrap_id r (by omega) (by omega)]
  have c1 : (rng (r + -1) 0 (h - 1) && rng (q + 0) 0 (w - 1)) = decide (r > 0) := by
    rw [Bool.eq_iff_iff, Bool.and_eq_true, rng_iff, rng_iff, decide_eq_true_iff]; omega
  have c2 : (rng (r + 0) 0 (h - 1) && rng (q + -1) 0 (w - 1)) = decide (q > 0) := by
    rw [Bool.eq_iff_iff, Bool.and_eq_true, rng_iff, rng_iff, decide_eq_true_iff]; omega
  have c3 : (rng (r + 0) 0 (h - 1) && rng (q + 1) 0 (w - 1)) = decide (q < w - 1) := by
    rw [Bool.eq_iff_iff, Bool.and_eq_true, rng_iff, rng_iff, decide_eq_true_iff]; omega
  have c4 : (rng (r + 1) 0 (h - 1) && rng (q + 0) 0 (w - 1)) = decide (r < h - 1) := by
    rw [Bool.eq_iff_iff, Bool.and_eq_true, rng_iff, rng_iff, decide_eq_true_iff]; omega
  refine besides_step w h l hk p r q [] (by simp) 0 (by omega) (-1) 0 rfl rfl (by omega) (by omega) (by omega) (by omega) (by omega) _ ?_
  refine besides_step w h l hk p r q _ (by split <;> simp) 1 (by omega) 0 (-1) rfl rfl (by omega) (by omega) (by omega) (by omega) (by omega) _ ?_
  refine besides_step w h l hk p r q _ (by split <;> split <;> simp) 2 (by omega) 0 1 rfl rfl (by omega) (by omega) (by omega) (by omega) (by omega) _ ?_
  refine besides_step w h l hk p r q _ (by split <;> split <;> split <;> simp) 3 (by omega) 1 0 rfl rfl (by omega) (by omega) (by omega) (by omega) (by omega) _ ?_
  rw [c1, c2, c3, c4]
  simp only [decide_eq_true_iff]
  refine Ev.step (f := fun _ => some _) (fun k => ?_) (Ev.now _)
  rw [impl_Chart_besides.l0, if_neg (by omega)]
  unfold nb
  rw [← c]
  have m1 : p + -1 * w + 0 = p - w := by omega
  have m2 : p + 0 * w + -1 = p - 1 := by omega
  have m3 : p + 0 * w + 1 = p + 1 := by omega
  have m4 : p + 1 * w + 0 = p + w := by omega
  rw [m1, m2, m3, m4]
  by_cases q1 : r > 0 <;> by_cases q2 : q > 0 <;> by_cases q3 : q < w - 1 <;> by_cases q4 : r < h - 1 <;> simp [q1, q2, q3, q4]
def negs (o : List Int) : Nat := o.countP fun v => decide (v < 0)
def stA (l : List Int) (i n q : Int) (s : List Int × List Int) : List Int × List Int := if rd s.1 q < 0 then (if rd l q = rd l i then (s.1.set q.toNat n, s.2 ++ [q]) else s) else s
def okA (L i : Nat) (n : Int) (s : List Int × List Int) : Prop :=
  s.1.length = L ∧ (∀ j : Nat, -1 ≤ s.1.getD j 0 ∧ s.1.getD j 0 ≤ n) ∧ (∀ j : Nat, j ≤ i → 0 ≤ s.1.getD j 0) ∧ s.2.length + negs s.1 ≤ 64 ∧ (∀ q ∈ s.2, 0 ≤ q ∧ q < (L : Int)) ∧ ∀ v : Int, 0 ≤ v → v ≤ n → ∃ j : Nat, j < L ∧ s.1.getD j 0 = v
theorem negs_set (o : List Int) (q : Nat) (n : Int) (hq : q < o.length) (h : o.getD q 0 < 0) (hn : 0 ≤ n) : negs (o.set q n) + 1 = negs o := by
  have e : o.getD q 0 = o[q] := by rw [List.getD_eq_getElem?_getD, List.getElem?_eq_getElem hq]; rfl
  rw [e] at h
  have hp : 0 < negs o := List.countP_pos_iff.2 ⟨o[q], List.getElem_mem hq, by simpa using h⟩
  unfold negs at hp ⊢
  rw [List.countP_set hq, if_pos (by simpa using h), if_neg (by simp; omega)]
  omega
theorem okA_step (L i : Nat) (l : List Int) (n q : Int) (hn : 0 ≤ n) (h0 : 0 ≤ q) (h1 : q < (L : Int)) (s : List Int × List Int) (hs : okA L i n s) : okA L i n (stA l i n q s) := by
  unfold stA
  by_cases c : rd s.1 q < 0
  · rw [if_pos c]
    by_cases c2 : rd l q = rd l i
    · rw [if_pos c2]
      obtain ⟨a, b, d, e, f, sj⟩ := hs
      have c' : s.1.getD q.toNat 0 < 0 := c
      have hz := negs_set s.1 q.toNat n (by omega) c' hn
      refine ⟨by rw [List.length_set]; exact a, fun j => ?_, fun j hj => ?_, ?_, fun x hx => ?_, fun v v0 v1 => ?_⟩
      · rw [getD_set]; have := b j; split <;> omega
      · rw [getD_set]; have := d j hj; split <;> omega
      · rw [List.length_append, List.length_singleton]; dsimp only; omega
      · rcases List.mem_append.1 hx with hx | hx
        · exact f x hx
        · rw [List.mem_singleton.1 hx]; exact ⟨h0, h1⟩
      · obtain ⟨j, hj, hv⟩ := sj v v0 v1
        exact ⟨j, hj, by dsimp only; rw [getD_set, if_neg (fun h => by have := h.1; subst this; omega)]; exact hv⟩
    · rw [if_neg c2]; exact hs
  · rw [if_neg c]; exact hs
theorem area_in (w h : Int) (l : List Int) (L : Nat) (hL : l.length = L) (h64 : L ≤ 64) (i : Nat) (hi : i < L) (n : Int) (hn : 0 ≤ n) (x : Int) (ns : List Int) (hns : ns.length ≤ 4) (hb : ∀ q ∈ ns, 0 ≤ q ∧ q < (L : Int)) (b : Int) (Post : List Int × Int → Prop)
    (hend : ∀ s, okA L i n s → ∃ r, Post r ∧ Ev (fun k => spec_l12Areas.l2 k s.1 n i s.2 (wrap64 (x + 1)) w h l) r ∧ Ev (fun k => impl_Chart_areas.l1 k s.1 n i s.2 (wrap64 (x + 1)) b i w h l) r)
    (s : List Int × List Int) (hs : okA L i n s) : ∃ r, Post r ∧ Ev (fun k => spec_l12Areas.l3 k s.1 n i s.2 x ns 0 w h l) r ∧ Ev (fun k => impl_Chart_areas.l2 k s.1 n i s.2 x b i ns (ns.length : Int) 0 w h l) r := by
  refine Ev.two (fun k j (s : List Int × List Int) => spec_l12Areas.l3 k s.1 n i s.2 x ns j w h l) (fun k j (s : List Int × List Int) => impl_Chart_areas.l2 k s.1 n i s.2 x b i ns (ns.length : Int) j w h l) ns.length (fun j s t => s = t ∧ okA L i n s) Post
    (fun s t hs => ?_) (fun j s t hj hs => .inr ?_) s s ⟨rfl, hs⟩
  · obtain ⟨rfl, hs⟩ := hs
    obtain ⟨r, hr, h1, h2⟩ := hend s hs
    exact ⟨r, hr, Ev.step (fun k => by rw [spec_l12Areas.l3, if_neg (by omega)]) h1, Ev.step (fun k => by rw [impl_Chart_areas.l2, if_neg (by omega)]) h2⟩
  · obtain ⟨rfl, hs⟩ := hs
    have hm : ns.getD j 0 ∈ ns := by
      rw [List.getD_eq_getElem?_getD, List.getElem?_eq_getElem hj]
      exact List.getElem_mem hj
    have hq := hb _ hm
    obtain ⟨q, hqe⟩ : ∃ q, q = ns.getD j 0 := ⟨_, rfl⟩
    have e0 : rd ns (j : Int) = q := by rw [hqe]; rfl
    rw [← hqe] at hq
    have hs2 := hs
    obtain ⟨o1, o2, o3, o4, o5, _⟩ := hs2
    refine ⟨stA l i n q s, _, ⟨rfl, okA_step L i l n q hn hq.1 hq.2 s hs⟩, fun r hr => Ev.step (fun k => ?_) hr, fun r hr => Ev.step (fun k => ?_) hr⟩
    · rw [spec_l12Areas.l3, if_pos (by omega), if_pos (by omega), e0, if_pos (by omega), if_pos (by omega), wrap_id ((j : Int) + 1) (by omega) (by omega)]
      unfold stA
      by_cases c : rd s.1 q < 0
      · rw [if_pos c, if_pos c, if_pos (by omega), if_pos (by omega), if_pos (by omega)]
        by_cases c2 : rd l q = rd l i
        · rw [if_pos c2, if_pos c2, if_pos (by omega)]
        · rw [if_neg c2, if_neg c2]
      · rw [if_neg c, if_neg c]
    · rw [impl_Chart_areas.l2, if_pos (by omega), if_pos (by omega), if_pos (by omega), e0, if_pos (by omega), if_pos (by omega), wrap_id ((j : Int) + 1) (by omega) (by omega)]
      unfold stA
      by_cases c : rd s.1 q < 0
      · rw [if_pos c, if_pos c, if_pos (by omega), if_pos (by omega), if_pos (by omega)]
        by_cases c2 : rd l q = rd l i
        · rw [if_pos c2, if_pos c2, if_pos (by omega)]
        · rw [if_neg c2, if_neg c2]
      · rw [if_neg c, if_neg c]
theorem area_while (w h : Int) (l : List Int) (hk : okChart w h l = true) (i : Nat) (hi : i < l.length) (n : Int) (hn : 0 ≤ n) (b : Int) (Post : List Int × Int → Prop)
    (hend : ∀ s, okA l.length i n s → ∃ r, Post r ∧ Ev (fun k => spec_l12Areas.l1 k s.1 (wrap64 (n + 1)) (wrap64 ((i : Int) + 1)) w h l) r ∧ Ev (fun k => impl_Chart_areas.l0 k s.1 (wrap64 (n + 1)) b (wrap64 ((i : Int) + 1)) w h l) r) (d : Nat) :
    ∀ (x : Nat) (s : List Int × List Int), x + d = 65 → okA l.length i n s → ∃ r, Post r ∧ Ev (fun k => spec_l12Areas.l2 k s.1 n i s.2 (x : Int) w h l) r ∧ Ev (fun k => impl_Chart_areas.l1 k s.1 n i s.2 (x : Int) b i w h l) r := by
  obtain ⟨_, hw, hh, hlen, h64⟩ := okChart_iff w h l hk
  induction d with
  | zero =>
    intro x s hx hs
    have hs2 := hs
    obtain ⟨o1, o2, o3, o4, o5, _⟩ := hs2
    obtain ⟨r, hr, h1, h2⟩ := hend s hs
    exact ⟨r, hr, Ev.step (fun k => by rw [spec_l12Areas.l2, if_neg (by omega)]) h1, Ev.step (fun k => by rw [impl_Chart_areas.l1, if_neg (by omega)]) h2⟩
  | succ d ih =>
    intro x s hx hs
    by_cases hlt : x < s.2.length
    · have hm : s.2.getD x 0 ∈ s.2 := by
        rw [List.getD_eq_getElem?_getD, List.getElem?_eq_getElem hlt]
        exact List.getElem_mem hlt
      have hs2 := hs
      obtain ⟨o1, o2, o3, o4, o5, _⟩ := hs2
      have hq := o5 _ hm
      obtain ⟨p, hp⟩ : ∃ p, p = s.2.getD x 0 := ⟨_, rfl⟩
      have e0 : rd s.2 (x : Int) = p := by rw [hp]; rfl
      rw [← hp] at hq
      have hsp := place_split w h p hw hh hq.1 (by omega)
      have hnb := nb_bd w h (p / w) (p % w) hw hh ⟨hsp.2.2.2.1, hsp.2.2.2.2.1⟩ ⟨hsp.2.2.2.2.2.1, hsp.2.2.2.2.2.2.1⟩
      obtain ⟨r, hr, h1, h2⟩ := area_in w h l l.length rfl h64 i hi n hn (x : Int) (nb w h (p / w) (p % w)) (nb_length _ _ _ _) (fun q hq => by have := hnb q hq; omega) b Post (fun s' hs' => by
        rw [wrap_id ((x : Int) + 1) (by omega) (by omega)]
        have e : ((x + 1 : Nat) : Int) = (x : Int) + 1 := by omega
        have := ih (x + 1) s' (by omega) hs'
        rw [e] at this
        exact this) s hs
      refine ⟨r, hr, Ev.step (f := fun k => (spec_l12Next.f k w h l p).bind _) (fun k => by rw [spec_l12Areas.l2, if_pos (by omega), if_pos (by omega), e0]) (Ev.bind (Next_ev w h l p hw hh hq.1 (by omega) (by omega)) h1), Ev.step (f := fun k => (impl_Chart_besides.f k w h l p).bind _) (fun k => by rw [impl_Chart_areas.l1, if_pos (by omega), if_pos (by omega), e0]) (Ev.bind (besides_ev w h l hk p hq.1 (by omega)) h2)⟩
    · obtain ⟨r, hr, h1, h2⟩ := hend s hs
      exact ⟨r, hr, Ev.step (fun k => by rw [spec_l12Areas.l2, if_neg (by omega)]) h1, Ev.step (fun k => by rw [impl_Chart_areas.l1, if_neg (by omega)]) h2⟩
def okO (L i : Nat) (s : List Int × Int) : Prop := s.1.length = L ∧ 0 ≤ s.2 ∧ s.2 ≤ (i : Int) ∧ (0 < i → 1 ≤ s.2) ∧ (∀ j : Nat, j < L → -1 ≤ s.1.getD j 0 ∧ s.1.getD j 0 < s.2) ∧ (∀ j : Nat, j < i → 0 ≤ s.1.getD j 0) ∧ ∀ v : Int, 0 ≤ v → v < s.2 → ∃ j : Nat, j < L ∧ s.1.getD j 0 = v
def okAreas2 (L : Nat) (s : List Int × Int) : Prop := (s.1.length = L ∧ 1 ≤ s.2 ∧ s.2 ≤ 64 ∧ ∀ j : Nat, j < L → 0 ≤ s.1.getD j 0 ∧ s.1.getD j 0 < s.2) ∧ ∀ v : Int, 0 ≤ v → v < s.2 → ∃ j : Nat, j < L ∧ s.1.getD j 0 = v
theorem area_out (w h : Int) (l : List Int) (hk : okChart w h l = true) (d : Nat) : ∀ (i : Nat) (s : List Int × Int), i + d = l.length → okO l.length i s →
    ∃ r, okAreas2 l.length r ∧ Ev (fun k => spec_l12Areas.l1 k s.1 s.2 (i : Int) w h l) r ∧ Ev (fun k => impl_Chart_areas.l0 k s.1 s.2 (l.length : Int) (i : Int) w h l) r := by
  obtain ⟨_, hw, hh, hlen, h64⟩ := okChart_iff w h l hk
  have hpos : 1 * 1 ≤ w * h := Int.mul_le_mul hw.1 hh.1 (by omega) (by omega)
  induction d with
  | zero =>
    intro i s hi hs
    obtain ⟨o1, o2, o3, o4, o5, o6, o7⟩ := hs
    refine ⟨s, ⟨⟨o1, o4 (by omega), by omega, fun j hj => ⟨o6 j (by omega), (o5 j hj).2⟩⟩, o7⟩, Ev.step (f := fun _ => some s) (fun k => by rw [spec_l12Areas.l1, if_neg (by omega)]) (Ev.now _), Ev.step (f := fun _ => some s) (fun k => by rw [impl_Chart_areas.l0, if_neg (by omega)]) (Ev.now _)⟩
  | succ d ih =>
    intro i s hi hs
    have hs2 := hs
    obtain ⟨o1, o2, o3, o4, o5, o6, o7⟩ := hs2
    have e0 : rd s.1 (i : Int) = s.1.getD i 0 := rfl
    have e : ((i + 1 : Nat) : Int) = (i : Int) + 1 := by omega
    by_cases c : rd s.1 (i : Int) ≥ 0
    · obtain ⟨r, hr, h1, h2⟩ := ih (i + 1) s (by omega) ⟨o1, o2, by omega, fun _ => by have := o5 i (by omega); omega, o5, fun j hj => by
        by_cases hji : j = i
        · rw [hji]; rw [e0] at c; exact c
        · exact o6 j (by omega), o7⟩
      rw [e] at h1 h2
      exact ⟨r, hr, Ev.step (fun k => by rw [spec_l12Areas.l1, if_pos (by omega), if_pos (by omega), if_pos c, wrap_id _ (by omega) (by omega)]) h1, Ev.step (fun k => by rw [impl_Chart_areas.l0, if_pos (by omega), if_pos (by omega), if_pos (by omega), if_pos c, wrap_id _ (by omega) (by omega)]) h2⟩
    · have hneg : negs (s.1.set i s.2) + 1 = negs s.1 := negs_set s.1 i s.2 (by omega) (by rw [e0] at c; omega) o2
      have hle : negs s.1 ≤ s.1.length := List.countP_le_length
      obtain ⟨r, hr, h1, h2⟩ := area_while w h l hk i (by omega) s.2 o2 (l.length : Int) (okAreas2 l.length) (fun s' hs' => by
        obtain ⟨a1, a2, a3, a4, a5, a6⟩ := hs'
        rw [wrap_id (s.2 + 1) (by omega) (by omega), wrap_id ((i : Int) + 1) (by omega) (by omega)]
        have := ih (i + 1) (s'.1, s.2 + 1) (by omega) ⟨a1, by dsimp only; omega, by dsimp only; omega, fun _ => by dsimp only; omega, fun j hj => by have := a2 j; dsimp only; omega, fun j hj => a3 j (by omega), fun v v0 v1 => a6 v v0 (by dsimp only at v1; omega)⟩
        rw [e] at this
        exact this) 65 0 (s.1.set i s.2, [(i : Int)]) (by omega) ⟨by rw [List.length_set]; exact o1, fun j => by
          rw [getD_set]
          split
          · omega
          · by_cases hj : j < l.length
            · have := o5 j hj; omega
            · rw [List.getD_eq_getElem?_getD, List.getElem?_eq_none (by omega)]; simp; omega, fun j hj => by
          rw [getD_set]
          split
          · omega
          · exact o6 j (by omega), by simp only [List.length_singleton]; omega, fun q hq => by rw [List.mem_singleton.1 hq]; omega, fun v v0 v1 => by
          by_cases hv : v = s.2
          · exact ⟨i, by omega, by dsimp only; rw [getD_set, if_pos ⟨rfl, by omega⟩, hv]⟩
          · obtain ⟨j, hj, hjv⟩ := o7 v v0 (by omega)
            exact ⟨j, hj, by dsimp only; rw [getD_set, if_neg (fun h => by have := h.1; subst this; omega)]; exact hjv⟩⟩
      exact ⟨r, hr, Ev.step (fun k => by rw [spec_l12Areas.l1, if_pos (by omega), if_pos (by omega), if_neg c, Int.toNat_natCast]; rfl) h1, Ev.step (fun k => by rw [impl_Chart_areas.l0, if_pos (by omega), if_pos (by omega), if_pos (by omega), if_neg c, Int.toNat_natCast]; rfl) h2⟩
theorem areas_same2 (w h : Int) (l : List Int) (hk : okChart w h l = true) : ∃ r, okAreas2 l.length r ∧ Ev (fun k => spec_l12Areas.f k w h l) r ∧ Ev (fun k => impl_Chart_areas.f k w h l) r := by
  obtain ⟨_, hw, hh, hlen, h64⟩ := okChart_iff w h l hk
  obtain ⟨r, hr, h1, h2⟩ := area_out w h l hk l.length 0 (List.replicate l.length (-1), 0) (by omega) ⟨by simp, by simp, by simp, fun hh => absurd hh (by omega), fun j hj => by
    rw [List.getD_eq_getElem?_getD, List.getElem?_replicate, if_pos hj]; simp, fun j hj => absurd hj (by omega), fun v v0 v1 => absurd v1 (by dsimp only; omega)⟩
  refine ⟨r, hr, ?_, ?_⟩
  · unfold spec_l12Areas.f
    refine Ev.foldK (fun k i (s : List Int) => spec_l12Areas.l0 k s i w h l) l.length (fun _ s => s ++ [-1]) (fun i s => s = List.replicate i (-1)) r (fun i s hi hs => ⟨by rw [hs, List.replicate_succ'], fun h1 => Ev.step (fun k => ?_) h1⟩) [] rfl ?_
    · have : s.length = i := by rw [hs]; simp
      rw [spec_l12Areas.l0, if_pos (by omega), if_pos (by omega), wrap_id _ (by omega) (by omega)]
    · have e : loopN (fun _ s => s ++ [-1]) l.length ([] : List Int) = List.replicate l.length (-1) := loopN_inv (fun _ s => s ++ [-1]) (fun i s => s = List.replicate i (-1)) l.length (fun i s _ hs => by rw [hs, List.replicate_succ']) [] rfl
      rw [e]
      exact Ev.step (fun k => by rw [spec_l12Areas.l0, if_neg (by omega)]; rfl) h1
  · unfold impl_Chart_areas.f slices_Repeat_int_int.f
    rw [if_pos ⟨rfl, by omega, by omega⟩]
    simp only [Option.bind_some, Int.toNat_natCast]
    have e : ((List.replicate l.length (([(-1)] : List Int).getD 0 0)).length : Int) = (l.length : Int) := by rw [List.length_replicate]
    rw [e]
    exact h2
theorem sizes_l0_eq (k : Nat) : ∀ (a x y : List Int) (i w h : Int) (l : List Int), impl_Chart_sizes.l0 k a x y (a.length : Int) i w h l = spec_l12Sizes.l0 k a x y i w h l := by
  induction k with
  | zero => intros; rfl
  | succ k ih =>
    intro a x y i w h l
    rw [impl_Chart_sizes.l0, spec_l12Sizes.l0]
    by_cases c : i < (a.length : Int)
    · simp only [if_pos c, ih]
    · simp only [if_neg c]
theorem sizes_same2 (w h : Int) (l : List Int) (hk : okChart w h l = true) : ∃ r : List Int × List Int, ((r.1.length = r.2.length ∧ 1 ≤ r.1.length ∧ r.1.length ≤ 64 ∧ ∀ j : Nat, 0 ≤ r.1.getD j 0 ∧ r.1.getD j 0 ≤ 64) ∧ ∀ j : Nat, j < r.1.length → 1 ≤ r.1.getD j 0) ∧ Ev (fun k => spec_l12Sizes.f k w h l) r ∧ Ev (fun k => impl_Chart_sizes.f k w h l) r := by
  obtain ⟨_, hw, hh, hlen, h64⟩ := okChart_iff w h l hk
  obtain ⟨⟨a, n⟩, ⟨⟨o1, o2, o3, o4⟩, o5⟩, h1, h2⟩ := areas_same2 w h l hk
  dsimp only at o1 o2 o3 o4 o5
  obtain ⟨r, hr, h3⟩ := Ev.loopE (fun k i (s : List Int × List Int) => spec_l12Sizes.l0 k a s.1 s.2 i w h l) a.length (fun i s => s.1.length = n.toNat ∧ s.2.length = n.toNat ∧ (∀ j : Nat, 0 ≤ s.1.getD j 0 ∧ s.1.getD j 0 ≤ (i : Int)) ∧ ∀ j : Nat, j < i → 1 ≤ s.1.getD (a.getD j 0).toNat 0) (fun r => (r.1.length = r.2.length ∧ 1 ≤ r.1.length ∧ r.1.length ≤ 64 ∧ ∀ j : Nat, 0 ≤ r.1.getD j 0 ∧ r.1.getD j 0 ≤ 64) ∧ ∀ j : Nat, j < r.1.length → 1 ≤ r.1.getD j 0)
    (fun s hs => ⟨s, ⟨⟨by omega, by omega, by omega, fun j => by have := hs.2.2.1 j; omega⟩, fun j hj => by
        obtain ⟨p, hp, hpv⟩ := o5 (j : Int) (by omega) (by omega)
        have := hs.2.2.2 p (by omega)
        rw [hpv, Int.toNat_natCast] at this
        exact this⟩, Ev.step (f := fun _ => some _) (fun k => by rw [spec_l12Sizes.l0, if_neg (by omega)]) (Ev.now _)⟩)
    (fun i s hi hs => by
      obtain ⟨z1, z2, z3, z4⟩ := hs
      have hb := o4 i (by omega)
      obtain ⟨q, hq⟩ : ∃ q, q = a.getD i 0 := ⟨_, rfl⟩
      have e0 : rd a (i : Int) = q := by rw [hq]; rfl
      have e1 : rd s.1 q = s.1.getD q.toNat 0 := rfl
      rw [← hq] at hb
      have hz := z3 q.toNat
      refine ⟨(s.1.set q.toNat (s.1.getD q.toNat 0 + 1), s.2.set q.toNat (rd l i)), ⟨by rw [List.length_set]; exact z1, by rw [List.length_set]; exact z2, fun j => ?_, fun j hj => ?_⟩, fun r h => Ev.step (fun k => ?_) h⟩
      · dsimp only
        rw [getD_set]
        have := z3 j
        split <;> omega
      · dsimp only
        rw [getD_set]
        by_cases hji : j = i
        · subst hji
          rw [← hq, if_pos ⟨rfl, by omega⟩]
          omega
        · have := z4 j (by omega)
          split
          · omega
          · exact this
      · rw [spec_l12Sizes.l0, if_pos (by omega), if_pos (by omega), e0, if_pos (by omega), if_pos (by omega), if_pos (by omega), if_pos (by omega), e1, wrap_id (s.1.getD q.toNat 0 + 1) (by omega) (by omega), wrap_id _ (by omega) (by omega)]) (List.replicate n.toNat 0, List.replicate n.toNat 0) ⟨by simp, by simp, fun j => by
        dsimp only
        rw [List.getD_eq_getElem?_getD, List.getElem?_replicate]; split <;> simp, fun j hj => absurd hj (by omega)⟩
  refine ⟨r, hr, ?_, ?_⟩
  · unfold spec_l12Sizes.f
    refine Ev.bind h1 ?_
    simp only [if_pos (show 0 ≤ n by omega), if_pos (show n.toNat ≤ 35184372088832 by omega)]
    exact h3
  · unfold impl_Chart_sizes.f
    refine Ev.bind h2 ?_
    simp only [if_pos (show 0 ≤ n by omega), if_pos (show n.toNat ≤ 35184372088832 by omega), sizes_l0_eq]
    exact h3
theorem sizes_same (w h : Int) (l : List Int) (hk : okChart w h l = true) : ∃ r : List Int × List Int, (r.1.length = r.2.length ∧ 1 ≤ r.1.length ∧ r.1.length ≤ 64 ∧ ∀ j : Nat, 0 ≤ r.1.getD j 0 ∧ r.1.getD j 0 ≤ 64) ∧ Ev (fun k => spec_l12Sizes.f k w h l) r ∧ Ev (fun k => impl_Chart_sizes.f k w h l) r := by
  obtain ⟨r, hr, h1, h2⟩ := sizes_same2 w h l hk
  exact ⟨r, hr.1, h1, h2⟩
theorem color_l0_eq (k : Nat) : ∀ (c : Int) (o S C : List Int) (i : Int), impl_Chart_sizesOf.l0 k c o S C (S.length : Int) i = spec_l12Color.l0 k c S C o i := by
  induction k with
  | zero => intros; rfl
  | succ k ih =>
    intro c o S C i
    rw [impl_Chart_sizesOf.l0, spec_l12Color.l0]
    by_cases q : i < (S.length : Int)
    · simp only [if_pos q, ih]
    · simp only [if_neg q]
theorem sizesOf_same2 (w h : Int) (l : List Int) (hk : okChart w h l = true) (c : Int) : ∃ r : List Int, ((r.length ≤ 64 ∧ ∀ j : Nat, 0 ≤ r.getD j 0 ∧ r.getD j 0 ≤ 64) ∧ ∀ j : Nat, j < r.length → 1 ≤ r.getD j 0) ∧ Ev (fun k => spec_l12Color.f k w h l c) r ∧ Ev (fun k => impl_Chart_sizesOf.f k w h l c) r := by
  obtain ⟨⟨S, C⟩, ⟨⟨z1, z2, z3, z4⟩, z5⟩, ha, hb⟩ := sizes_same2 _ _ _ hk
  dsimp only at z1 z2 z3 z4 z5
  obtain ⟨r, hr, h1⟩ := Ev.loopE (fun k i (o : List Int) => spec_l12Color.l0 k c S C o i) S.length (fun i o => (o.length ≤ i ∧ ∀ j : Nat, 0 ≤ o.getD j 0 ∧ o.getD j 0 ≤ 64) ∧ ∀ j : Nat, j < o.length → 1 ≤ o.getD j 0) (fun r => (r.length ≤ 64 ∧ ∀ j : Nat, 0 ≤ r.getD j 0 ∧ r.getD j 0 ≤ 64) ∧ ∀ j : Nat, j < r.length → 1 ≤ r.getD j 0)
    (fun o ho => ⟨o, ⟨⟨by have := ho.1.1; omega, ho.1.2⟩, ho.2⟩, Ev.step (f := fun _ => some o) (fun k => by rw [spec_l12Color.l0, if_neg (by omega)]) (Ev.now _)⟩)
    (fun i o hi ho => by
      obtain ⟨⟨o1, o2⟩, o3⟩ := ho
      have e0 : rd S (i : Int) = S.getD i 0 := rfl
      by_cases q : rd C (i : Int) = c
      · refine ⟨o ++ [S.getD i 0], ⟨⟨by rw [List.length_append, List.length_singleton]; omega, fun j => ?_⟩, fun j hj => ?_⟩, fun r h => Ev.step (fun k => ?_) h⟩
        · rw [List.getD_eq_getElem?_getD, List.getElem?_append]
          split
          · rw [← List.getD_eq_getElem?_getD]; exact o2 j
          · rw [List.getElem?_singleton]
            split
            · exact z4 i
            · simp
        · rw [List.length_append, List.length_singleton] at hj
          rw [List.getD_eq_getElem?_getD, List.getElem?_append]
          by_cases hjo : j < o.length
          · rw [if_pos hjo, ← List.getD_eq_getElem?_getD]; exact o3 j hjo
          · rw [if_neg hjo, List.getElem?_singleton, if_pos (by omega)]
            exact z5 i hi
        · rw [spec_l12Color.l0, if_pos (by omega), if_pos (by omega), if_pos (by omega), if_pos q, if_pos (by omega), e0, wrap_id _ (by omega) (by omega)]
      · exact ⟨o, ⟨⟨by omega, o2⟩, o3⟩, fun r h => Ev.step (fun k => by rw [spec_l12Color.l0, if_pos (by omega), if_pos (by omega), if_pos (by omega), if_neg q, wrap_id _ (by omega) (by omega)]) h⟩) [] ⟨⟨by simp, fun j => by simp⟩, fun j hj => absurd hj (by simp)⟩
  refine ⟨r, hr, ?_, ?_⟩
  · unfold spec_l12Color.f; exact Ev.bind ha h1
  · unfold impl_Chart_sizesOf.f
    refine Ev.bind hb ?_
    dsimp only
    simp only [color_l0_eq]
    exact h1
theorem sizesOf_same (w h : Int) (l : List Int) (hk : okChart w h l = true) (c : Int) : ∃ r : List Int, (r.length ≤ 64 ∧ ∀ j : Nat, 0 ≤ r.getD j 0 ∧ r.getD j 0 ≤ 64) ∧ Ev (fun k => spec_l12Color.f k w h l c) r ∧ Ev (fun k => impl_Chart_sizesOf.f k w h l c) r := by
  obtain ⟨r, hr, h1, h2⟩ := sizesOf_same2 w h l hk c
  exact ⟨r, hr.1, h1, h2⟩
theorem specColor_eq (c : Int) : spec_l2Color.f c = some (rng c 0 5) := by unfold spec_l2Color.f; rw [l1In_eq]; rfl
theorem isColor_eq (c : Int) : impl_isColor.f c = some (rng c 0 5) := by unfold impl_isColor.f; rw [in_eq]; rfl
def okLots (l : List Int) : Bool := (l.all fun x => rng x 1 100) && rng (l.length : Int) 1 6
theorem okLots_iff (l : List Int) (h : okLots l = true) : (∀ i, i < l.length → 1 ≤ l.getD i 0 ∧ l.getD i 0 ≤ 100) ∧ 1 ≤ l.length ∧ l.length ≤ 6 := by
  unfold okLots at h
  rw [Bool.and_eq_true, rng_iff] at h
  refine ⟨fun i hi => ?_, by omega, by omega⟩
  have := (all_getD 0 l _).1 h.1 i hi
  exact (rng_iff _ _ _).1 this
theorem specLots_ev (l : List Int) (hl : l.length ≤ 2000000) : Ev (fun k => spec_l12Lots.f k l) (okLots l) := by
  unfold spec_l12Lots.f
  have e : okLots l = ((List.range l.length).all (fun i => rng (l.getD i 0) 1 100) && rng (l.length : Int) 1 6) := by
    unfold okLots
    congr 1
    rw [Bool.eq_iff_iff, all_getD 0, all_range]
  rw [e]
  refine Ev.scan (fun k i => spec_l12Lots.l0 k l i) l.length _ _ (Ev.step (f := fun _ => some _) (fun k => ?_) (Ev.now _)) ?_ ?_
  · rw [spec_l12Lots.l0, if_neg (by omega), l1In_eq]
    rfl
  · intro i hi hg
    refine Ev.step (f := fun _ => some false) (fun k => ?_) (Ev.now _)
    have e0 : rd l (i : Int) = l.getD i 0 := rfl
    rw [spec_l12Lots.l0, if_pos (by omega), if_pos (by omega), l1In_eq, e0, hg]
    rfl
  · intro i r hi hg hr
    refine Ev.step (fun k => ?_) hr
    have e0 : rd l (i : Int) = l.getD i 0 := rfl
    rw [spec_l12Lots.l0, if_pos (by omega), if_pos (by omega), l1In_eq, e0, hg, wrap_id _ (by omega) (by omega)]
    rfl
theorem areLots_eq (l : List Int) : impl_areLots.f l = some (okLots l) := by
  unfold impl_areLots.f areAll_impl_areLots_1.f okLots
  simp only [in_eq, Option.bind_some]
  cases rng (l.length : Int) 1 6 <;> simp
theorem specAsked_ev (w h : Int) (l : List Int) (c : Int) (q : List Int) (hl : l.length ≤ 2000000) (hq : q.length ≤ 2000000) : Ev (fun k => spec_l12Asked.f k w h l c q) (okChart w h l && (rng c 0 5 && okLots q)) := by
  unfold spec_l12Asked.f
  refine Ev.bind (l2Good_ev w h l hl) ?_
  simp only [specColor_eq, Option.bind_some]
  cases okChart w h l with
  | false => exact Ev.now _
  | true =>
    cases rng c 0 5 with
    | false => exact Ev.now _
    | true => simp only [if_true, Bool.true_and]; exact Ev.bind (specLots_ev q hq) (Ev.now _)
theorem has_ev (l : List Int) (v : Int) (hl : l.length ≤ 2000000) : Ev (fun k => spec_l1Has.f k l v) (decide (v ∈ l)) := by
  unfold spec_l1Has.f
  have key : ∀ d i : Nat, i + d = l.length → Ev (fun k => spec_l1Has.l0 k l v (i : Int)) (decide (v ∈ l.drop i)) := by
    intro d
    induction d with
    | zero =>
      intro i hi
      rw [List.drop_of_length_le (by omega)]
      exact Ev.step (f := fun _ => some false) (fun k => by rw [spec_l1Has.l0, if_neg (by omega)]) (Ev.now _)
    | succ d ih =>
      intro i hi
      have e0 : rd l (i : Int) = l[i]'(by omega) := by
        show l.getD ((i : Int)).toNat 0 = _
        rw [Int.toNat_natCast, List.getD_eq_getElem?_getD, List.getElem?_eq_getElem (by omega)]
        rfl
      rw [List.drop_eq_getElem_cons (by omega)]
      by_cases c : l[i]'(by omega) = v
      · rw [decide_eq_true (List.mem_cons.2 (.inl c.symm))]
        exact Ev.step (f := fun _ => some true) (fun k => by rw [spec_l1Has.l0, if_pos (by omega), if_pos (by omega), e0, if_pos c]) (Ev.now _)
      · have h1 := ih (i + 1) (by omega)
        have e : ((i + 1 : Nat) : Int) = (i : Int) + 1 := by omega
        rw [e] at h1
        have e2 : decide (v ∈ l[i]'(by omega) :: l.drop (i + 1)) = decide (v ∈ l.drop (i + 1)) := by
          rw [decide_eq_decide, List.mem_cons]
          exact ⟨fun h => h.resolve_left (fun h => c h.symm), .inr⟩
        rw [e2]
        exact Ev.step (fun k => by rw [spec_l1Has.l0, if_pos (by omega), if_pos (by omega), e0, if_neg c, wrap_id _ (by omega) (by omega)]) h1
  exact key l.length 0 (by omega)
def cnd (S l : List Int) (i : Nat) (a : Int) : Bool := rng a 0 ((l.length : Int) - 1) && decide (S.getD i 0 ≤ l.getD a.toNat 0)
def tak (S l : List Int) (i : Nat) (a : Int) : List Int := l.set a.toNat (l.getD a.toNat 0 - S.getD i 0)
def lft (S : List Int) : Nat → List Int → List Int → Option (List Int)
  | _, l, [] => some l
  | i, l, a :: b => if cnd S l i a then lft S (i + 1) (tak S l i a) b else none
theorem tak_length (S l : List Int) (i : Nat) (a : Int) : (tak S l i a).length = l.length := by unfold tak; rw [List.length_set]
theorem lft_snoc (S : List Int) (x : Int) (b : List Int) : ∀ (i : Nat) (l : List Int), lft S i l (b ++ [x]) = (lft S i l b).bind fun l' => if cnd S l' (i + b.length) x then some (tak S l' (i + b.length) x) else none := by
  induction b with
  | nil => intro i l; rfl
  | cons a b ih =>
    intro i l
    rw [List.cons_append, lft, lft]
    by_cases c : cnd S l i a = true
    · rw [if_pos c, if_pos c, ih, List.length_cons, show i + 1 + b.length = i + (b.length + 1) from by omega]
    · rw [if_neg c, if_neg c]
      rfl
theorem lft_length (S : List Int) (b : List Int) : ∀ (i : Nat) (l l' : List Int), lft S i l b = some l' → l'.length = l.length := by
  induction b with
  | nil => intro i l l' h; rw [← Option.some.inj h]
  | cons a b ih =>
    intro i l l' h
    rw [lft] at h
    split at h
    · rw [ih _ _ _ h, tak_length]
    · cases h
theorem fits_ev (S q b : List Int) (hS : ∀ j : Nat, 0 ≤ S.getD j 0 ∧ S.getD j 0 ≤ 64) (hq : okLots q = true) (hb : b.length ≤ S.length) (h64 : S.length ≤ 64) : Ev (fun k => spec_l12Fits.f k S q b) (lft S 0 q b).isSome := by
  obtain ⟨q1, q2, q3⟩ := okLots_iff q hq
  have key : ∀ (d i : Nat) (u l : List Int), i + d = b.length → u.length = q.length → l.length = q.length → (∀ j : Nat, j < q.length → 0 ≤ u.getD j 0 ∧ u.getD j 0 ≤ q.getD j 0 ∧ l.getD j 0 = q.getD j 0 - u.getD j 0) → Ev (fun k => spec_l12Fits.l0 k S q b u (i : Int)) (lft S i l (b.drop i)).isSome := by
    intro d
    induction d with
    | zero =>
      intro i u l hi _ _ _
      rw [List.drop_eq_nil_of_le (by omega)]
      exact Ev.step (f := fun _ => some true) (fun k => by rw [spec_l12Fits.l0, if_neg (by omega)]) (Ev.now _)
    | succ d ih =>
      intro i u l hi u1 v1 huv
      obtain ⟨a, ha⟩ : ∃ a, a = b.getD i 0 := ⟨_, rfl⟩
      have e0 : rd b (i : Int) = a := by rw [ha]; rfl
      have ea : b[i] = a := by rw [ha, List.getD_eq_getElem?_getD, List.getElem?_eq_getElem (by omega)]; rfl
      have eS : rd S (i : Int) = S.getD i 0 := rfl
      have hSi := hS i
      have w1 : wrap64 ((q.length : Int) - 1) = (q.length : Int) - 1 := wrap_id _ (by omega) (by omega)
      rw [List.drop_eq_getElem_cons (by omega), ea, lft]
      cases hin : rng a 0 ((q.length : Int) - 1) with
      | false =>
        have hc : cnd S l i a = false := by unfold cnd; rw [v1, hin]; rfl
        rw [hc, if_neg (by decide)]
        refine Ev.step (f := fun k => spec_l12Fits.j1 k S q b u i a true) (fun k => ?_) (Ev.step (f := fun _ => some false) (fun k => by rw [spec_l12Fits.j1, if_pos rfl]) (Ev.now _))
        rw [spec_l12Fits.l0, if_pos (by omega), if_pos (by omega), e0, w1, l1In_eq, hin]
        rfl
      | true =>
        have hin2 := (rng_iff _ _ _).1 hin
        obtain ⟨x1, x2, x3⟩ := huv a.toNat (by omega)
        have x4 := q1 a.toNat (by omega)
        have eu : rd u a = u.getD a.toNat 0 := rfl
        have eq : rd q a = q.getD a.toNat 0 := rfl
        have hset : rd (u.set a.toNat (u.getD a.toNat 0 + S.getD i 0)) a = u.getD a.toNat 0 + S.getD i 0 := by
          have : rd (u.set a.toNat (u.getD a.toNat 0 + S.getD i 0)) a = (u.set a.toNat (u.getD a.toNat 0 + S.getD i 0)).getD a.toNat 0 := rfl
          rw [this, getD_set, if_pos ⟨rfl, by omega⟩]
        have hs1 : ∀ k, spec_l12Fits.l0 (k + 1) S q b u (i : Int) = spec_l12Fits.j1 k S q b u i a false := fun k => by
          rw [spec_l12Fits.l0, if_pos (by omega), if_pos (by omega), e0, w1, l1In_eq, hin, Option.bind_some, if_pos rfl, decide_eq_false (show ¬ (i : Int) ≥ (S.length : Int) by omega)]
        have hs2 : ∀ k, spec_l12Fits.j1 (k + 1) S q b u (i : Int) a false = if u.getD a.toNat 0 + S.getD i 0 > q.getD a.toNat 0 then some false else spec_l12Fits.l0 k S q b (u.set a.toNat (u.getD a.toNat 0 + S.getD i 0)) ((i : Int) + 1) := fun k => by
          rw [spec_l12Fits.j1, if_neg (by decide), if_pos (by omega), if_pos (by omega), if_pos (by omega), if_pos (by omega), eu, eS, wrap_id (u.getD a.toNat 0 + S.getD i 0) (by omega) (by omega), Option.bind_some, if_pos (by omega), hset, eq, wrap_id ((i : Int) + 1) (by omega) (by omega)]
        by_cases c : u.getD a.toNat 0 + S.getD i 0 > q.getD a.toNat 0
        · have hc : cnd S l i a = false := by unfold cnd; rw [v1, hin, decide_eq_false (by omega)]; rfl
          rw [hc, if_neg (by decide)]
          exact Ev.step (f := fun k => spec_l12Fits.j1 k S q b u i a false) (fun k => by rw [hs1]) (Ev.step (f := fun _ => some false) (fun k => by rw [hs2, if_pos c]) (Ev.now _))
        · have hc : cnd S l i a = true := by unfold cnd; rw [v1, hin, decide_eq_true (by omega)]; rfl
          rw [hc, if_pos rfl]
          have G := ih (i + 1) (u.set a.toNat (u.getD a.toNat 0 + S.getD i 0)) (tak S l i a) (by omega) (by rw [List.length_set]; exact u1) (by rw [tak_length]; exact v1) (fun j hj => by
            unfold tak
            rw [getD_set, getD_set]
            have := huv j hj
            by_cases e : a.toNat = j
            · subst e
              rw [if_pos ⟨rfl, by omega⟩, if_pos ⟨rfl, by omega⟩]
              omega
            · rw [if_neg (fun h => e h.1), if_neg (fun h => e h.1)]
              exact this)
          rw [show ((i + 1 : Nat) : Int) = (i : Int) + 1 from by omega] at G
          exact Ev.step (f := fun k => spec_l12Fits.j1 k S q b u i a false) (fun k => by rw [hs1]) (Ev.step (fun k => by rw [hs2, if_neg c]) G)
  unfold spec_l12Fits.f
  simp only [if_pos (show 0 ≤ (q.length : Int) by omega), Int.toNat_natCast, if_pos (show q.length ≤ 35184372088832 by omega)]
  refine key b.length 0 _ q (by omega) (by simp) rfl (fun j hj => ?_)
  have := q1 j hj
  have ez : (List.replicate q.length (0 : Int)).getD j 0 = 0 := by rw [List.getD_eq_getElem?_getD, List.getElem?_replicate, if_pos hj]; rfl
  rw [ez]
  omega
def dif : List Int → List Int → Nat
  | _, [] => 0
  | p, x :: r => (if x ∈ p then 0 else 1) + dif (p ++ [x]) r
theorem dif_ev (b : List Int) (hb : b.length ≤ 1000) : Ev (fun k => spec_l12Different.f k b) ((dif [] b : Nat) : Int) := by
  unfold spec_l12Different.f
  have key : ∀ d i c : Nat, i + d = b.length → c ≤ i → Ev (fun k => spec_l12Different.l0 k b (c : Int) (i : Int)) ((c + dif (b.take i) (b.drop i) : Nat) : Int) := by
    intro d
    induction d with
    | zero =>
      intro i c hi hc
      rw [List.drop_eq_nil_of_le (by omega), dif, Nat.add_zero]
      exact Ev.step (f := fun _ => some (c : Int)) (fun k => by rw [spec_l12Different.l0, if_neg (by omega)]) (Ev.now _)
    | succ d ih =>
      intro i c hi hc
      have e0 : rd b (i : Int) = b[i] := by
        show b.getD i 0 = _
        rw [List.getD_eq_getElem?_getD, List.getElem?_eq_getElem (by omega)]; rfl
      have e1 : ((i + 1 : Nat) : Int) = (i : Int) + 1 := by omega
      have h1 := has_ev (b.take i) b[i] (by rw [List.length_take]; omega)
      rw [List.drop_eq_getElem_cons (by omega), dif, ← List.take_succ_eq_append_getElem (by omega)]
      refine Ev.step (f := fun k => (spec_l1Has.f k (b.take i) b[i]).bind _) (fun k => by rw [spec_l12Different.l0, if_pos (by omega), if_pos (by omega), if_pos (by omega), e0, Int.toNat_natCast]) (Ev.bind h1 ?_)
      by_cases c1 : b[i] ∈ b.take i
      · have G := ih (i + 1) c (by omega) (by omega)
        rw [e1] at G
        simp only [decide_eq_true c1, if_true, if_pos c1, Nat.zero_add, wrap_id ((i : Int) + 1) (show -9223372036854775808 ≤ (i : Int) + 1 by omega) (show (i : Int) + 1 ≤ 9223372036854775807 by omega)]
        exact G
      · have G := ih (i + 1) (c + 1) (by omega) (by omega)
        rw [e1, show ((c + 1 : Nat) : Int) = (c : Int) + 1 from by omega] at G
        simp only [decide_eq_false c1, Bool.false_eq_true, if_false, if_neg c1, wrap_id ((i : Int) + 1) (show -9223372036854775808 ≤ (i : Int) + 1 by omega) (show (i : Int) + 1 ≤ 9223372036854775807 by omega), wrap_id ((c : Int) + 1) (show -9223372036854775808 ≤ (c : Int) + 1 by omega) (show (c : Int) + 1 ≤ 9223372036854775807 by omega)]
        rw [← Nat.add_assoc]
        exact G
  have := key b.length 0 0 (by omega) (by omega)
  rw [Nat.zero_add, List.take_zero, List.drop_zero] at this
  exact this
def cn (f : Nat → Bool) : Nat → Nat
  | 0 => 0
  | m + 1 => cn f m + (if f m then 1 else 0)
theorem cn_le (f : Nat → Bool) (m : Nat) : cn f m ≤ m := by
  induction m with
  | zero => exact Nat.le_refl 0
  | succ m ih => rw [cn]; split <;> omega
theorem cn_mono (f g : Nat → Bool) (m : Nat) (h : ∀ j, j < m → f j = true → g j = true) : cn f m ≤ cn g m := by
  induction m with
  | zero => exact Nat.le_refl 0
  | succ m ih =>
    rw [cn, cn]
    have := ih (fun j hj => h j (by omega))
    by_cases c : f m = true
    · rw [if_pos c, if_pos (h m (by omega) c)]; omega
    · rw [if_neg c]; omega
theorem cn_congr (f g : Nat → Bool) (m : Nat) (h : ∀ j, j < m → f j = g j) : cn f m = cn g m :=
  Nat.le_antisymm (cn_mono f g m fun j hj hf => by rw [← h j hj]; exact hf) (cn_mono g f m fun j hj hf => by rw [h j hj]; exact hf)
theorem cn_one (f g : Nat → Bool) (x m : Nat) (hx : x < m) (hf : f x = false) (hg : g x = true) (h : ∀ j, j ≠ x → g j = f j) : cn g m = cn f m + 1 := by
  induction m with
  | zero => exact absurd hx (by omega)
  | succ m ih =>
    rw [cn, cn]
    by_cases c : x = m
    · subst c
      rw [hf, hg, if_pos rfl, if_neg (by decide), cn_congr g f x (fun j hj => h j (by omega))]
    · rw [ih (by omega), h m (fun e => c e.symm)]
      omega
def cnl (m : Nat) (p : List Int) : Nat := cn (fun j => decide ((j : Int) ∈ p)) m
theorem dif_cn (m : Nat) (r : List Int) : ∀ p : List Int, (∀ x ∈ r, 0 ≤ x ∧ x < (m : Int)) → dif p r + cnl m p = cnl m (p ++ r) := by
  induction r with
  | nil => intro p _; rw [List.append_nil, dif, Nat.zero_add]
  | cons x r ih =>
    intro p h
    obtain ⟨x0, x1⟩ := h x (by simp)
    have := ih (p ++ [x]) (fun y hy => h y (List.mem_cons_of_mem _ hy))
    rw [List.append_assoc, List.singleton_append] at this
    rw [dif, ← this]
    unfold cnl
    by_cases c : x ∈ p
    · rw [if_pos c, cn_congr (fun j => decide ((j : Int) ∈ p ++ [x])) (fun j => decide ((j : Int) ∈ p)) m (fun j _ => by
        rw [decide_eq_decide, List.mem_append, List.mem_singleton]
        exact ⟨fun h => h.elim id (fun h => h ▸ c), .inl⟩)]
      omega
    · rw [if_neg c, cn_one (fun j => decide ((j : Int) ∈ p)) (fun j => decide ((j : Int) ∈ p ++ [x])) x.toNat m (by omega) (by rw [show ((x.toNat : Nat) : Int) = x from by omega]; exact decide_eq_false c) (by rw [show ((x.toNat : Nat) : Int) = x from by omega]; simp) (fun j hj => by
        rw [decide_eq_decide, List.mem_append, List.mem_singleton]
        exact ⟨fun h => h.elim id (fun h => absurd h (by omega)), .inl⟩)]
      omega
theorem cnl_nil (m : Nat) : cnl m [] = 0 := by
  unfold cnl
  induction m with
  | zero => rfl
  | succ m ih => rw [cn, ih]; simp
theorem dif_nil (m : Nat) (r : List Int) (h : ∀ x ∈ r, 0 ≤ x ∧ x < (m : Int)) : dif [] r = cnl m r := by
  have := dif_cn m r [] h
  rw [cnl_nil, Nat.add_zero, List.nil_append] at this
  exact this
theorem dif_app (r s : List Int) : ∀ p : List Int, dif p (r ++ s) = dif p r + dif (p ++ r) s := by
  induction r with
  | nil => intro p; rw [List.nil_append, List.append_nil, dif, Nat.zero_add]
  | cons x r ih => intro p; rw [List.cons_append, dif, dif, ih, List.append_assoc, List.singleton_append, Nat.add_assoc]
def srchF (S l b : List Int) (rec : List Int → List Int → Option (List Int)) (i : Nat) : Option (List Int) := if l.getD i 0 < S.getD b.length 0 then none else rec (l.set i (l.getD i 0 - S.getD b.length 0)) (b ++ [(i : Int)])
def srch (S : List Int) (most : Nat) : Nat → List Int → List Int → Option (List Int)
  | 0, _, b => if dif [] b > most then none else some b
  | n + 1, l, b => if dif [] b > most then none else tryL (srchF S l b (srch S most n)) l.length
def rsO : Option (List Int) → List Int × Bool
  | some r => (r, true)
  | none => ([], false)
theorem search_ev (S q : List Int) (most : Nat) (hS : ∀ j : Nat, 0 ≤ S.getD j 0 ∧ S.getD j 0 ≤ 64) (hq : okLots q = true) (h64 : S.length ≤ 64) : ∀ (n : Nat) (l b : List Int), b.length + n = S.length → lft S 0 q b = some l → Ev (fun k => spec_l12Search.f k S q (most : Int) b) (rsO (srch S most n l b)) := by
  obtain ⟨q1, q2, q3⟩ := okLots_iff q hq
  have bad : ∀ b : List Int, b.length ≤ S.length → lft S 0 q b = none → Ev (fun k => spec_l12Search.f k S q (most : Int) b) ([], false) := fun b hb hn => by
    have h1 := fits_ev S q b hS hq hb h64
    rw [hn] at h1
    exact Ev.step (f := fun k => (spec_l12Fits.f k S q b).bind _) (fun k => by rw [spec_l12Search.f]) (Ev.bind h1 (by
      simp only [Option.isSome_none, Bool.false_eq_true, if_false]
      exact Ev.step (f := fun _ => some ([], false)) (fun k => by rw [spec_l12Search.j0, if_pos rfl]) (Ev.now _)))
  intro n
  induction n with
  | zero =>
    intro l b hn hl
    have h1 := fits_ev S q b hS hq (by omega) h64
    rw [hl] at h1
    refine Ev.step (f := fun k => (spec_l12Fits.f k S q b).bind _) (fun k => by rw [spec_l12Search.f]) (Ev.bind h1 ?_)
    simp only [Option.isSome_some, if_true]
    refine Ev.bind (dif_ev b (by omega)) ?_
    by_cases c : dif [] b > most
    · rw [srch, if_pos c, decide_eq_true (show ((dif [] b : Nat) : Int) > (most : Int) by omega)]
      exact Ev.step (f := fun _ => some ([], false)) (fun k => by rw [spec_l12Search.j0, if_pos rfl]) (Ev.now _)
    · rw [srch, if_neg c, decide_eq_false (show ¬ ((dif [] b : Nat) : Int) > (most : Int) by omega)]
      exact Ev.step (f := fun _ => some (b, true)) (fun k => by rw [spec_l12Search.j0, if_neg (by decide), if_pos (by omega)]) (Ev.now _)
  | succ n ih =>
    intro l b hn hl
    have h1 := fits_ev S q b hS hq (by omega) h64
    have hll := lft_length S b 0 q l hl
    rw [hl] at h1
    refine Ev.step (f := fun k => (spec_l12Fits.f k S q b).bind _) (fun k => by rw [spec_l12Search.f]) (Ev.bind h1 ?_)
    simp only [Option.isSome_some, if_true]
    refine Ev.bind (dif_ev b (by omega)) ?_
    by_cases c : dif [] b > most
    · rw [srch, if_pos c, decide_eq_true (show ((dif [] b : Nat) : Int) > (most : Int) by omega)]
      exact Ev.step (f := fun _ => some ([], false)) (fun k => by rw [spec_l12Search.j0, if_pos rfl]) (Ev.now _)
    · rw [srch, if_neg c, decide_eq_false (show ¬ ((dif [] b : Nat) : Int) > (most : Int) by omega)]
      obtain ⟨F, hF⟩ : ∃ F, F = srchF S l b (srch S most n) := ⟨_, rfl⟩
      rw [← hF]
      have key : ∀ d x : Nat, x + d = q.length → tryL F x = none → Ev (fun k => spec_l12Search.l0 k S q (most : Int) b (x : Int)) (rsO (tryL F l.length)) := by
        intro d
        induction d with
        | zero =>
          intro x hx ht
          have : x = l.length := by omega
          rw [← this, ht]
          exact Ev.step (f := fun _ => some ([], false)) (fun k => by rw [spec_l12Search.l0, if_neg (by omega)]) (Ev.now _)
        | succ d ihd =>
          intro x hx ht
          have e1 : ((x + 1 : Nat) : Int) = (x : Int) + 1 := by omega
          have eo : spec_l1Own.f b = some b := by
            unfold spec_l1Own.f
            rw [Option.bind_some, List.length_nil, if_pos (by omega), List.nil_append]
          have hcr : ∀ rr, Ev (fun k => spec_l12Search.f k S q (most : Int) (b ++ [(x : Int)])) (rsO rr) → F x = rr → Ev (fun k => spec_l12Search.l0 k S q (most : Int) b (x : Int)) (rsO (tryL F l.length)) := fun rr hrr hFx => by
            refine Ev.step (f := fun k => (spec_l12Search.f k S q (most : Int) (b ++ [(x : Int)])).bind _) (fun k => by rw [spec_l12Search.l0, if_pos (by omega), eo, Option.bind_some, if_pos (by omega)]) (Ev.bind hrr ?_)
            cases rr with
            | none =>
              have G := ihd (x + 1) (by omega) (tryL_none F x ht hFx)
              rw [e1] at G
              simp only [rsO, Bool.false_eq_true, if_false, wrap_id ((x : Int) + 1) (show -9223372036854775808 ≤ (x : Int) + 1 by omega) (show (x : Int) + 1 ≤ 9223372036854775807 by omega)]
              exact G
            | some r =>
              rw [tryL_hit F x r ht hFx l.length (by omega)]
              exact Ev.now _
          have hsn := lft_snoc S (x : Int) b 0 q
          rw [hl, Option.bind_some, Nat.zero_add] at hsn
          have hrg : rng (x : Int) 0 ((l.length : Int) - 1) = true := (rng_iff _ _ _).2 (by omega)
          by_cases cc : l.getD x 0 < S.getD b.length 0
          · have hc : cnd S l b.length (x : Int) = false := by unfold cnd; rw [hrg, Int.toNat_natCast, decide_eq_false (by omega)]; rfl
            rw [hc, if_neg (by decide)] at hsn
            exact hcr none (bad _ (by rw [List.length_append, List.length_singleton]; omega) hsn) (by rw [hF]; unfold srchF; rw [if_pos cc])
          · have hc : cnd S l b.length (x : Int) = true := by unfold cnd; rw [hrg, Int.toNat_natCast, decide_eq_true (by omega)]; rfl
            rw [hc, if_pos rfl] at hsn
            unfold tak at hsn
            rw [Int.toNat_natCast] at hsn
            exact hcr _ (ih _ (b ++ [(x : Int)]) (by rw [List.length_append, List.length_singleton]; omega) hsn) (by rw [hF]; unfold srchF; rw [if_neg cc])
      have G := key q.length 0 (by omega) rfl
      exact Ev.step (fun k => by rw [spec_l12Search.j0, if_neg (by decide), if_neg (by omega)]; rfl) G
theorem tryL_congr (f g : Nat → Option (List Int)) (n : Nat) (h : ∀ i, i < n → f i = g i) : tryL f n = tryL g n := by
  induction n with
  | zero => rfl
  | succ n ih => rw [tryL, tryL, ih (fun i hi => h i (by omega)), h n (by omega)]
theorem srch_asg (S : List Int) (most : Nat) : ∀ (n : Nat) (l b : List Int), l.length ≤ most → (∀ x ∈ b, 0 ≤ x ∧ x < (l.length : Int)) → srch S most n l b = asg S n l b := by
  intro n
  induction n with
  | zero =>
    intro l b hm hb
    have := cn_le (fun j => decide ((j : Int) ∈ b)) l.length
    have h2 := dif_nil l.length b hb
    unfold cnl at h2
    rw [srch, asg, if_neg (by omega)]
  | succ n ih =>
    intro l b hm hb
    have := cn_le (fun j => decide ((j : Int) ∈ b)) l.length
    have h2 := dif_nil l.length b hb
    unfold cnl at h2
    rw [srch, asg, if_neg (by omega)]
    refine tryL_congr _ _ _ fun i hi => ?_
    unfold srchF asgF
    by_cases c : l.getD i 0 < S.getD b.length 0
    · rw [if_pos c, if_pos c]
    · rw [if_neg c, if_neg c, ih _ _ (by rw [List.length_set]; exact hm) (fun x hx => by
        rw [List.length_set]
        rcases List.mem_append.1 hx with hx | hx
        · exact hb x hx
        · rw [List.mem_singleton.1 hx]; omega)]
theorem hasFew_ev (w h : Int) (l : List Int) (c : Int) (q : List Int) (S : List Int) (hS : okChart w h l = true → Ev (fun k => impl_Chart_sizesOf.f k w h l c) S) : Ev (fun k => impl_hasFewAreas.f k w h l c q) ((okChart w h l && (rng c 0 5 && okLots q)) && decide ((S.length : Int) ≤ 8)) := by
  unfold impl_hasFewAreas.f
  simp only [IsChart_eq, isColor_eq, areLots_eq, Option.bind_some]
  cases hk : okChart w h l with
  | false => exact Ev.now _
  | true =>
    cases rng c 0 5 with
    | false => exact Ev.now _
    | true =>
      cases okLots q with
      | false => exact Ev.now _
      | true => simp only [if_true, Bool.true_and]; exact Ev.bind (hS hk) (Ev.now _)
theorem asg_length (S : List Int) : ∀ (n : Nat) (l b r : List Int), asg S n l b = some r → r.length = b.length + n := by
  intro n
  induction n with
  | zero => intro l b r h; rw [← Option.some.inj h, Nat.add_zero]
  | succ n ih =>
    intro l b r h
    rw [asg] at h
    have key : ∀ m : Nat, tryL (asgF S l b (asg S n)) m = some r → r.length = b.length + (n + 1) := by
      intro m
      induction m with
      | zero => intro h; cases h
      | succ m ihm =>
        intro h
        rw [tryL] at h
        cases ht : tryL (asgF S l b (asg S n)) m with
        | some r' =>
          rw [ht] at h
          replace h : some r' = some r := h
          obtain rfl := Option.some.inj h
          exact ihm ht
        | none =>
          rw [ht] at h
          replace h : asgF S l b (asg S n) m = some r := h
          unfold asgF at h
          split at h
          · cases h
          · have := ih _ _ _ h
            rw [List.length_append, List.length_singleton] at this
            omega
    exact key _ h
theorem FirstAssignment_same (w h : Int) (l : List Int) (c : Int) (q : List Int) (hl : l.length ≤ 2000000) (hq : q.length ≤ 2000000) : ∃ r : List Int × Bool, r.1.length ≤ 64 ∧ Ev (fun k => spec_FirstAssignment.f k w h l c q) r ∧ Ev (fun k => impl_FirstAssignment.f k w h l c q) r := by
  unfold spec_FirstAssignment.f impl_FirstAssignment.f
  have hs := specAsked_ev w h l c q hl hq
  have hj0 : Ev (fun k => spec_FirstAssignment.j0 k c q true w h l) ([], false) := Ev.step (f := fun _ => some ([], false)) (fun k => by rw [spec_FirstAssignment.j0, if_pos rfl]) (Ev.now _)
  cases hk : (okChart w h l && (rng c 0 5 && okLots q)) with
  | false =>
    have h0 : ∃ S : List Int, okChart w h l = true → Ev (fun k => impl_Chart_sizesOf.f k w h l c) S := by
      cases hc : okChart w h l with
      | false => exact ⟨[], fun h => by cases h⟩
      | true =>
        obtain ⟨S, _, _, hb⟩ := sizesOf_same w h l hc c
        exact ⟨S, fun _ => hb⟩
    obtain ⟨S, hS⟩ := h0
    have h1 := hasFew_ev w h l c q S hS
    rw [hk] at hs h1
    exact ⟨([], false), by simp, Ev.bind hs (by simp only [Bool.false_eq_true, if_false]; exact hj0), Ev.bind h1 (by simp only [Bool.false_and, Bool.false_eq_true, if_false]; exact Ev.now _)⟩
  | true =>
    rw [hk] at hs
    have hok := hk
    rw [Bool.and_eq_true, Bool.and_eq_true] at hok
    obtain ⟨S, ⟨z1, z2⟩, ha, hb⟩ := sizesOf_same w h l hok.1 c
    have h1 := hasFew_ev w h l c q S (fun _ => hb)
    rw [hk] at h1
    obtain ⟨q1, q2, q3⟩ := okLots_iff q hok.2.2
    by_cases h8 : (S.length : Int) ≤ 8
    · rw [decide_eq_true h8] at h1
      have h2 := search_ev S q q.length z2 hok.2.2 z1 S.length q [] (by rw [List.length_nil]; omega) rfl
      rw [srch_asg S q.length S.length q [] (Nat.le_refl _) (fun x hx => by cases hx)] at h2
      have h3 : rsO (asg S S.length q []) = firstOfA S q := by unfold firstOfA; cases asg S S.length q [] <;> rfl
      rw [h3] at h2
      have hlen : (firstOfA S q).1.length ≤ 64 := by
        unfold firstOfA
        cases hr : asg S S.length q [] with
        | none => simp
        | some r =>
          have := asg_length S _ _ _ _ hr
          rw [List.length_nil] at this
          show r.length ≤ 64
          omega
      refine ⟨firstOfA S q, hlen, Ev.bind hs ?_, Ev.bind h1 ?_⟩
      · simp only [if_true]
        refine Ev.bind ha ?_
        rw [decide_eq_false (show ¬ (S.length : Int) > 8 by omega)]
        exact Ev.step (f := fun k => (spec_l12Color.f k w h l c).bind _) (fun k => by rw [spec_FirstAssignment.j0, if_neg (by decide)]) (Ev.bind ha (Ev.bind h2 (Ev.now _)))
      · simp only [Bool.and_self, if_true]
        refine Ev.bind hb ?_
        have hm : ∀ (L : List Int) (B : Int), (∀ i, i < L.length → 0 ≤ L.getD i 0 ∧ L.getD i 0 ≤ 100) → ∀ x ∈ L, 0 ≤ x ∧ x ≤ 1000000 := fun L _ hL x hx => by
          obtain ⟨i, hi, rfl⟩ := List.getElem_of_mem hx
          have := hL i hi
          rw [List.getD_eq_getElem?_getD, List.getElem?_eq_getElem hi, Option.getD_some] at this
          omega
        have hg : (1 ≤ q.length ∧ q.length ≤ 100 ∧ S.length ≤ 100) ∧ (∀ x ∈ S, 0 ≤ x ∧ x ≤ 1000000) ∧ (∀ x ∈ q, 0 ≤ x ∧ x ≤ 1000000) := ⟨⟨by omega, by omega, by omega⟩, hm S 0 (fun i hi => by have := z2 i; omega), hm q 0 (fun i hi => by have := q1 i hi; omega)⟩
        rw [if_pos hg]
        exact Ev.now _
    · rw [decide_eq_false h8] at h1
      refine ⟨([], false), by simp, Ev.bind hs ?_, Ev.bind h1 ?_⟩
      · simp only [if_true]
        refine Ev.bind ha ?_
        rw [decide_eq_true (show (S.length : Int) > 8 by omega)]
        exact hj0
      · simp only [Bool.and_false, Bool.false_eq_true, if_false]
        exact Ev.now _
def goes (S : List Int) : Nat → List Int → List Nat → Prop
  | _, _, [] => True
  | i, l, a :: A => a < l.length ∧ S.getD i 0 ≤ l.getD a 0 ∧ goes S (i + 1) (l.set a (l.getD a 0 - S.getD i 0)) A
theorem goes_lt (S : List Int) (A : List Nat) : ∀ (i : Nat) (l : List Int), goes S i l A → ∀ a ∈ A, a < l.length := by
  induction A with
  | nil => intro i l _ a ha; cases ha
  | cons a A ih =>
    intro i l h x hx
    rcases List.mem_cons.1 hx with rfl | hx
    · exact h.1
    · have := ih _ _ h.2.2 x hx
      rwa [List.length_set] at this
theorem goes_mask (S : List Int) (f : Nat → Bool) (A : List Nat) : ∀ (i : Nat) (l l' : List Int), l'.length = l.length → (∀ j, j < l.length → l'.getD j 0 = if f j then l.getD j 0 else 0) → (∀ j, i ≤ j → j < i + A.length → 1 ≤ S.getD j 0) → (goes S i l' A ↔ goes S i l A ∧ ∀ a ∈ A, f a = true) := by
  induction A with
  | nil => intro i l l' _ _ _; exact ⟨fun _ => ⟨trivial, fun a ha => by cases ha⟩, fun _ => trivial⟩
  | cons a A ih =>
    intro i l l' hl hm hS
    have s1 := hS i (by omega) (by rw [List.length_cons]; omega)
    have G := fun x => ih (i + 1) (l.set a x) (l'.set a x) (by rw [List.length_set, List.length_set]; exact hl)
    constructor
    · rintro ⟨h1, h2, h3⟩
      have ha := hm a (by omega)
      have hf : f a = true := by
        cases hc : f a with
        | true => rfl
        | false => rw [hc, if_neg (by decide)] at ha; omega
      rw [hf, if_pos rfl] at ha
      rw [ha] at h2 h3
      have := (G _ (fun j hj => by
        rw [List.length_set] at hj
        rw [getD_set, getD_set]
        by_cases e : a = j
        · subst e
          rw [if_pos ⟨rfl, by omega⟩, hf, if_pos rfl, if_pos ⟨rfl, by omega⟩]
        · simp only [if_neg (show ¬ (a = j ∧ j < l'.length) from fun h => e h.1), if_neg (show ¬ (a = j ∧ j < l.length) from fun h => e h.1)]
          exact hm j hj) (fun j h1 h2 => hS j (by omega) (by rw [List.length_cons]; omega))).1 h3
      exact ⟨⟨by omega, h2, this.1⟩, fun x hx => by
        rcases List.mem_cons.1 hx with rfl | hx
        · exact hf
        · exact this.2 x hx⟩
    · rintro ⟨⟨h1, h2, h3⟩, h4⟩
      have ha := hm a h1
      have hf := h4 a (by simp)
      rw [hf, if_pos rfl] at ha
      have := (G _ (fun j hj => by
        rw [List.length_set] at hj
        rw [getD_set, getD_set]
        by_cases e : a = j
        · subst e
          rw [if_pos ⟨rfl, by omega⟩, hf, if_pos rfl, if_pos ⟨rfl, by omega⟩]
        · simp only [if_neg (show ¬ (a = j ∧ j < l'.length) from fun h => e h.1), if_neg (show ¬ (a = j ∧ j < l.length) from fun h => e h.1)]
          exact hm j hj) (fun j h1 h2 => hS j (by omega) (by rw [List.length_cons]; omega))).2 ⟨h3, fun x hx => h4 x (List.mem_cons_of_mem _ hx)⟩
      refine ⟨by omega, by rw [ha]; exact h2, ?_⟩
      rw [ha]
      exact this
theorem tryL_isSome (f : Nat → Option (List Int)) (n : Nat) : (tryL f n).isSome = true ↔ ∃ i, i < n ∧ (f i).isSome = true := by
  induction n with
  | zero => exact ⟨fun h => (by cases h), fun ⟨i, hi, _⟩ => absurd hi (Nat.not_lt_zero i)⟩
  | succ n ih =>
    rw [tryL]
    cases ht : tryL f n with
    | some r =>
      rw [ht] at ih
      obtain ⟨i, hi, hf⟩ := ih.1 rfl
      exact ⟨fun _ => ⟨i, by omega, hf⟩, fun _ => rfl⟩
    | none =>
      rw [ht] at ih
      constructor
      · intro h; exact ⟨n, by omega, h⟩
      · rintro ⟨i, hi, hf⟩
        by_cases e : i = n
        · subst e; exact hf
        · have := ih.2 ⟨i, by omega, hf⟩
          cases this
theorem asg_iff (S : List Int) : ∀ (n : Nat) (l b : List Int), (asg S n l b).isSome = true ↔ ∃ A : List Nat, A.length = n ∧ goes S b.length l A := by
  intro n
  induction n with
  | zero => intro l b; exact ⟨fun _ => ⟨[], rfl, trivial⟩, fun _ => rfl⟩
  | succ n ih =>
    intro l b
    rw [asg, tryL_isSome]
    constructor
    · rintro ⟨i, hi, h⟩
      unfold asgF at h
      split at h
      · cases h
      · obtain ⟨A, hA, hg⟩ := (ih _ _).1 h
        rw [List.length_append, List.length_singleton] at hg
        exact ⟨i :: A, by rw [List.length_cons, hA], hi, by omega, hg⟩
    · rintro ⟨A, hA, hg⟩
      cases A with
      | nil => cases hA
      | cons a A =>
        obtain ⟨h1, h2, h3⟩ := hg
        refine ⟨a, h1, ?_⟩
        unfold asgF
        rw [if_neg (by omega)]
        refine (ih _ _).2 ⟨A, by rw [List.length_cons] at hA; omega, ?_⟩
        rw [List.length_append, List.length_singleton]
        exact h3
theorem srch_iff (S : List Int) (most : Nat) : ∀ (n : Nat) (l b : List Int), (srch S most n l b).isSome = true ↔ ∃ A : List Nat, A.length = n ∧ goes S b.length l A ∧ dif [] (b ++ A.map fun a : Nat => (a : Int)) ≤ most := by
  intro n
  induction n with
  | zero =>
    intro l b
    rw [srch]
    constructor
    · intro h
      by_cases c : dif [] b > most
      · rw [if_pos c] at h; cases h
      · exact ⟨[], rfl, trivial, by rw [List.map_nil, List.append_nil]; omega⟩
    · rintro ⟨A, hA, _, hd⟩
      rw [List.length_eq_zero_iff.1 hA, List.map_nil, List.append_nil] at hd
      rw [if_neg (by omega)]
      rfl
  | succ n ih =>
    intro l b
    rw [srch]
    constructor
    · intro h
      by_cases c : dif [] b > most
      · rw [if_pos c] at h; cases h
      · rw [if_neg c, tryL_isSome] at h
        obtain ⟨i, hi, h⟩ := h
        unfold srchF at h
        split at h
        · cases h
        · obtain ⟨A, hA, hg, hd⟩ := (ih _ _).1 h
          rw [List.length_append, List.length_singleton] at hg
          refine ⟨i :: A, by rw [List.length_cons, hA], ⟨hi, by omega, hg⟩, ?_⟩
          rw [List.map_cons]
          rw [List.append_assoc, List.singleton_append] at hd
          exact hd
    · rintro ⟨A, hA, hg, hd⟩
      rw [if_neg (by rw [dif_app] at hd; omega), tryL_isSome]
      cases A with
      | nil => cases hA
      | cons a A =>
        obtain ⟨h1, h2, h3⟩ := hg
        refine ⟨a, h1, ?_⟩
        unfold srchF
        rw [if_neg (by omega)]
        refine (ih _ _).2 ⟨A, by rw [List.length_cons] at hA; omega, ?_, ?_⟩
        · rw [List.length_append, List.length_singleton]
          exact h3
        · rw [List.append_assoc, List.singleton_append]
          rw [List.map_cons] at hd
          exact hd
def bitN (s j : Nat) : Bool := decide (s / 2 ^ j % 2 = 1)
theorem bit_set (m : Nat) : ∀ f : Nat → Bool, ∃ s, s < 2 ^ m ∧ ∀ j, j < m → bitN s j = f j := by
  induction m with
  | zero => intro f; exact ⟨0, by decide, fun j hj => absurd hj (Nat.not_lt_zero j)⟩
  | succ m ih =>
    intro f
    obtain ⟨s, hs, hb⟩ := ih (fun j => f (j + 1))
    have hp := Nat.pow_succ 2 m
    obtain ⟨e, he, he2⟩ : ∃ e : Nat, e ≤ 1 ∧ decide (e = 1) = f 0 := by
      cases f 0 with
      | true => exact ⟨1, Nat.le_refl 1, rfl⟩
      | false => exact ⟨0, Nat.zero_le 1, rfl⟩
    refine ⟨e + 2 * s, by omega, fun j hj => ?_⟩
    cases j with
    | zero =>
      rw [← he2]
      unfold bitN
      rw [Nat.pow_zero, Nat.div_one, decide_eq_decide]
      omega
    | succ j =>
      rw [← hb j (by omega)]
      unfold bitN
      rw [show (2 : Nat) ^ (j + 1) = 2 * 2 ^ j from by rw [Nat.pow_succ, Nat.mul_comm], ← Nat.div_div_eq_div_mul, show (e + 2 * s) / 2 = s from by omega]
theorem lots_bit : ∀ (m : Fin 64) (i : Fin 6), Go.bits .and .i64 (shr .i64 (m.val : Int) (i.val : Int)) 1 = if m.val / 2 ^ i.val % 2 = 1 then 1 else 0 := by decide +kernel
theorem lots_shl : ∀ n : Fin 7, shl .i64 1 (n.val : Int) = ((2 ^ n.val : Nat) : Int) := by decide +kernel
def GoodS (S q : List Int) (s : Nat) : Prop := ∃ A : List Nat, A.length = S.length ∧ goes S 0 q A ∧ ∀ a ∈ A, bitN s a = true
theorem good_srch (S q : List Int) (n : Nat) : (srch S n S.length q []).isSome = true ↔ ∃ s, s < 2 ^ q.length ∧ GoodS S q s ∧ cn (bitN s) q.length ≤ n := by
  rw [srch_iff]
  constructor
  · rintro ⟨A, hA, hg, hd⟩
    obtain ⟨s, hs, hb⟩ := bit_set q.length (fun j => decide ((j : Int) ∈ A.map fun a : Nat => (a : Int)))
    have hlt := goes_lt S A 0 q hg
    refine ⟨s, hs, ⟨A, hA, hg, fun a ha => ?_⟩, ?_⟩
    · rw [hb a (hlt a ha)]
      exact decide_eq_true (List.mem_map.2 ⟨a, ha, rfl⟩)
    · rw [List.nil_append, dif_nil q.length _ (fun x hx => by
        obtain ⟨a, ha, rfl⟩ := List.mem_map.1 hx
        have := hlt a ha
        omega)] at hd
      rw [cn_congr (bitN s) _ q.length hb]
      exact hd
  · rintro ⟨s, hs, ⟨A, hA, hg, hb⟩, hc⟩
    have hlt := goes_lt S A 0 q hg
    refine ⟨A, hA, hg, ?_⟩
    rw [List.nil_append, dif_nil q.length _ (fun x hx => by
      obtain ⟨a, ha, rfl⟩ := List.mem_map.1 hx
      have := hlt a ha
      omega)]
    refine Nat.le_trans (cn_mono _ (bitN s) q.length (fun j hj h => ?_)) hc
    obtain ⟨a, ha, e⟩ := List.mem_map.1 (of_decide_eq_true h)
    rw [← show a = j from by omega]
    exact hb a ha
theorem few_ok (S M : List Int) (hS : ∀ j : Nat, 0 ≤ S.getD j 0 ∧ S.getD j 0 ≤ 64) (h64 : S.length ≤ 64) (hM : 1 ≤ M.length ∧ M.length ≤ 6) (hb : ∀ j : Nat, j < M.length → 0 ≤ M.getD j 0 ∧ M.getD j 0 ≤ 100) : assign_few.f S M = some ((asg S S.length M []).isNone, M) := by
  unfold assign_few.f
  refine if_pos ⟨⟨hM.1, by omega, by omega⟩, fun x hx => ?_, fun x hx => ?_⟩
  · obtain ⟨i, hi, rfl⟩ := List.getElem_of_mem hx
    have := hS i
    rw [List.getD_eq_getElem?_getD, List.getElem?_eq_getElem hi, Option.getD_some] at this
    omega
  · obtain ⟨i, hi, rfl⟩ := List.getElem_of_mem hx
    have := hb i hi
    rw [List.getD_eq_getElem?_getD, List.getElem?_eq_getElem hi, Option.getD_some] at this
    omega
theorem few_mask (S q : List Int) (hq : okLots q = true) (x9 X : Int) (s : Nat) (hs : s < 64) (d : Nat) : ∀ (j : Nat) (M : List Int) (r : Int × Bool), j + d = q.length → M.length = q.length → (∀ i, i < q.length → M.getD i 0 = if i < j ∧ bitN s i = true then q.getD i 0 else 0) →
    (∀ M' : List Int, M'.length = q.length → (∀ i, i < q.length → M'.getD i 0 = if bitN s i = true then q.getD i 0 else 0) → Ev (fun k => impl_FewestLots.l1 k q S x9 (s : Int) M' ((cn (bitN s) q.length : Nat) : Int) X (s : Int) q (q.length : Int) (q.length : Int)) r) →
    Ev (fun k => impl_FewestLots.l1 k q S x9 (s : Int) M ((cn (bitN s) j : Nat) : Int) X (s : Int) q (q.length : Int) (j : Int)) r := by
  obtain ⟨q1, q2, q3⟩ := okLots_iff q hq
  induction d with
  | zero =>
    intro j M r hj hM hm h
    have e : j = q.length := by omega
    subst e
    exact h M hM (fun i hi => by
      rw [hm i hi]
      by_cases c : bitN s i = true
      · rw [if_pos ⟨hi, c⟩, if_pos c]
      · rw [if_neg (fun h => c h.2), if_neg c])
  | succ d ih =>
    intro j M r hj hM hm h
    have hb := lots_bit ⟨s, hs⟩ ⟨j, by omega⟩
    dsimp only at hb
    have e0 : rd q (j : Int) = q.getD j 0 := rfl
    have e1 : ((j + 1 : Nat) : Int) = (j : Int) + 1 := by omega
    have hcn := cn_le (bitN s) j
    by_cases c : s / 2 ^ j % 2 = 1
    · have cb : bitN s j = true := decide_eq_true c
      rw [if_pos c] at hb
      have G := ih (j + 1) (M.set j (q.getD j 0)) r (by omega) (by rw [List.length_set]; exact hM) (fun i hi => by
        rw [getD_set]
        by_cases e : j = i
        · subst e
          rw [if_pos ⟨rfl, by omega⟩, if_pos ⟨by omega, cb⟩]
        · rw [if_neg (fun h => e h.1), hm i hi]
          by_cases c2 : bitN s i = true
          · by_cases c3 : i < j
            · rw [if_pos ⟨c3, c2⟩, if_pos ⟨by omega, c2⟩]
            · rw [if_neg (fun h => c3 h.1), if_neg (fun h => by have := h.1; omega)]
          · rw [if_neg (fun h => c2 h.2), if_neg (fun h => c2 h.2)]) h
      rw [e1, cn, if_pos cb, show ((cn (bitN s) j + 1 : Nat) : Int) = ((cn (bitN s) j : Nat) : Int) + 1 from by omega] at G
      exact Ev.step (fun k => by rw [impl_FewestLots.l1, if_pos (by omega), if_pos (by omega), if_pos (by omega), hb, if_pos rfl, if_pos (by omega), e0, Int.toNat_natCast, wrap_id ((j : Int) + 1) (by omega) (by omega), wrap_id (((cn (bitN s) j : Nat) : Int) + 1) (by omega) (by omega)]) G
    · have cb : ¬ bitN s j = true := fun h => c (of_decide_eq_true h)
      rw [if_neg c] at hb
      have G := ih (j + 1) M r (by omega) hM (fun i hi => by
        rw [hm i hi]
        by_cases c2 : bitN s i = true
        · by_cases c3 : i < j
          · rw [if_pos ⟨c3, c2⟩, if_pos ⟨by omega, c2⟩]
          · rw [if_neg (fun h => c3 h.1), if_neg (fun h => by
              have h1 : i = j := by have := h.1; omega
              subst h1
              exact cb c2)]
        · rw [if_neg (fun h => c2 h.2), if_neg (fun h => c2 h.2)]) h
      rw [e1, cn, if_neg cb, Nat.add_zero] at G
      exact Ev.step (fun k => by rw [impl_FewestLots.l1, if_pos (by omega), if_pos (by omega), if_pos (by omega), hb, if_neg (by decide), wrap_id ((j : Int) + 1) (by omega) (by omega)]) G
def FewInv (S q : List Int) (s c : Nat) : Prop := c ≤ q.length + 1 ∧ (c = q.length + 1 ∨ ∃ t, t < s ∧ GoodS S q t ∧ cn (bitN t) q.length = c) ∧ ∀ t, t < s → GoodS S q t → c ≤ cn (bitN t) q.length
def fewR (q : List Int) (c : Nat) : Int × Bool := if c > q.length then (0, false) else ((c : Int), true)
theorem few_lots (S q : List Int) (hS : ∀ j : Nat, 0 ≤ S.getD j 0 ∧ S.getD j 0 ≤ 64) (hS1 : ∀ j : Nat, j < S.length → 1 ≤ S.getD j 0) (h64 : S.length ≤ 64) (hq : okLots q = true) : ∃ r, (∃ c : Nat, FewInv S q (2 ^ q.length) c ∧ r = fewR q c) ∧ Ev (fun k => impl_FewestLots.l0 k q S (wrap64 ((q.length : Int) + 1)) (shl .i64 1 (q.length : Int)) 0) r := by
  obtain ⟨q1, q2, q3⟩ := okLots_iff q hq
  have hM : shl .i64 1 (q.length : Int) = ((2 ^ q.length : Nat) : Int) := lots_shl ⟨q.length, by omega⟩
  have h64' : 2 ^ q.length ≤ 64 := Nat.pow_le_pow_right (by decide) q3
  rw [hM, wrap_id ((q.length : Int) + 1) (by omega) (by omega), show ((q.length : Int) + 1) = ((q.length + 1 : Nat) : Int) from by omega]
  obtain ⟨M, hMe⟩ : ∃ M, M = 2 ^ q.length := ⟨_, rfl⟩
  rw [← hMe] at h64' ⊢
  refine Ev.loopE (fun k i (c : Nat) => impl_FewestLots.l0 k q S (c : Int) (M : Int) i) M (fun s c => FewInv S q s c) (fun r => ∃ c : Nat, FewInv S q M c ∧ r = fewR q c)
    (fun c hc => ⟨fewR q c, ⟨c, hc, rfl⟩, ?_⟩) (fun s c hs hc => ?_) (q.length + 1) ⟨Nat.le_refl _, .inl rfl, fun t ht => absurd ht (Nat.not_lt_zero t)⟩
  · unfold fewR
    by_cases cc : c > q.length
    · rw [if_pos cc]
      exact Ev.step (f := fun _ => some (0, false)) (fun k => by rw [impl_FewestLots.l0, if_neg (by omega), if_pos (by omega)]) (Ev.now _)
    · rw [if_neg cc]
      exact Ev.step (f := fun _ => some ((c : Int), true)) (fun k => by rw [impl_FewestLots.l0, if_neg (by omega), if_neg (by omega)]) (Ev.now _)
  · obtain ⟨i1, i2, i3⟩ := hc
    have hcn := cn_le (bitN s) q.length
    have enter : ∀ r, (∀ M' : List Int, M'.length = q.length → (∀ i, i < q.length → M'.getD i 0 = if bitN s i = true then q.getD i 0 else 0) → Ev (fun k => impl_FewestLots.l1 k q S (c : Int) (s : Int) M' ((cn (bitN s) q.length : Nat) : Int) (M : Int) (s : Int) q (q.length : Int) (q.length : Int)) r) → Ev (fun k => impl_FewestLots.l0 k q S (c : Int) (M : Int) (s : Int)) r := fun r h => by
      have G := few_mask S q hq (c : Int) (M : Int) s (by omega) q.length 0 (List.replicate q.length 0) r (by omega) (by simp) (fun i hi => by
        rw [List.getD_eq_getElem?_getD, List.getElem?_replicate, if_pos hi, if_neg (fun h => absurd h.1 (Nat.not_lt_zero i))]; rfl) h
      exact Ev.step (fun k => by rw [impl_FewestLots.l0, if_pos (by omega), if_pos (by omega), Int.toNat_natCast, if_pos (by omega)]; rfl) G
    have hfew : ∀ M' : List Int, M'.length = q.length → (∀ i, i < q.length → M'.getD i 0 = if bitN s i = true then q.getD i 0 else 0) → assign_few.f S M' = some ((asg S S.length M' []).isNone, M') ∧ ((asg S S.length M' []).isSome = true ↔ GoodS S q s) := fun M' h1 h2 => by
      refine ⟨few_ok S M' hS h64 (by omega) (fun j hj => by
        rw [h2 j (by omega)]
        have := q1 j (by omega)
        split <;> omega), ?_⟩
      rw [asg_iff]
      constructor
      · rintro ⟨A, hA, hg⟩
        have := (goes_mask S (bitN s) A 0 q M' h1 (fun j hj => h2 j hj) (fun j _ hj => hS1 j (by omega))).1 hg
        exact ⟨A, hA, this.1, this.2⟩
      · rintro ⟨A, hA, hg, hb⟩
        exact ⟨A, hA, (goes_mask S (bitN s) A 0 q M' h1 (fun j hj => h2 j hj) (fun j _ hj => hS1 j (by omega))).2 ⟨hg, hb⟩⟩
    by_cases c1 : cn (bitN s) q.length < c
    · by_cases c2 : GoodS S q s
      · refine ⟨cn (bitN s) q.length, ⟨by omega, .inr ⟨s, by omega, c2, rfl⟩, fun t ht hg => ?_⟩, fun r hr => enter r fun M' h1 h2 => ?_⟩
        · by_cases e : t = s
          · rw [e]; exact Nat.le_refl _
          · have := i3 t (by omega) hg; omega
        · obtain ⟨f1, f2⟩ := hfew M' h1 h2
          have hn : (asg S S.length M' []).isNone = false := by
            have := f2.2 c2
            cases ha : asg S S.length M' [] with
            | none => rw [ha] at this; cases this
            | some _ => rfl
          rw [hn] at f1
          exact Ev.step (fun k => by rw [impl_FewestLots.l1, if_neg (by omega), if_pos (by omega), f1, Option.bind_some, if_neg (show ¬ (false, M').1 = true from Bool.false_ne_true), wrap_id ((s : Int) + 1) (by omega) (by omega)]) hr
      · refine ⟨c, ⟨i1, i2.imp id (fun ⟨t, a, b⟩ => ⟨t, by omega, b⟩), fun t ht hg => ?_⟩, fun r hr => enter r fun M' h1 h2 => ?_⟩
        · by_cases e : t = s
          · rw [e] at hg; exact absurd hg c2
          · exact i3 t (by omega) hg
        · obtain ⟨f1, f2⟩ := hfew M' h1 h2
          have hn : (asg S S.length M' []).isNone = true := by
            cases ha : asg S S.length M' [] with
            | none => rfl
            | some _ => exact absurd (f2.1 (by rw [ha]; rfl)) c2
          rw [hn] at f1
          exact Ev.step (fun k => by rw [impl_FewestLots.l1, if_neg (by omega), if_pos (by omega), f1, Option.bind_some, if_pos rfl, wrap_id ((s : Int) + 1) (by omega) (by omega)]) hr
    · refine ⟨c, ⟨i1, i2.imp id (fun ⟨t, a, b⟩ => ⟨t, by omega, b⟩), fun t ht hg => ?_⟩, fun r hr => enter r fun M' h1 h2 => ?_⟩
      · by_cases e : t = s
        · rw [e]; omega
        · exact i3 t (by omega) hg
      · exact Ev.step (fun k => by rw [impl_FewestLots.l1, if_neg (by omega), if_neg (by omega), wrap_id ((s : Int) + 1) (by omega) (by omega)]) hr
theorem few_spec (w h : Int) (l : List Int) (col : Int) (S q : List Int) (hcol : Ev (fun k => spec_l12Color.f k w h l col) S) (hS : ∀ j : Nat, 0 ≤ S.getD j 0 ∧ S.getD j 0 ≤ 64) (h64 : S.length ≤ 64) (hq : okLots q = true) (c : Nat) (hc : FewInv S q (2 ^ q.length) c) : ∀ d n : Nat, n + d = q.length + 1 → n ≤ c → Ev (fun k => spec_FewestLots.l0 k col q (n : Int) w h l) (fewR q c) := by
  obtain ⟨q1, q2, q3⟩ := okLots_iff q hq
  obtain ⟨i1, i2, i3⟩ := hc
  intro d
  induction d with
  | zero =>
    intro n hn hnc
    unfold fewR
    rw [if_pos (by omega)]
    exact Ev.step (f := fun _ => some (0, false)) (fun k => by rw [spec_FewestLots.l0, if_neg (by omega)]) (Ev.now _)
  | succ d ih =>
    intro n hn hnc
    have h1 := search_ev S q n hS hq h64 S.length q [] (by rw [List.length_nil]; omega) rfl
    have h2 := good_srch S q n
    refine Ev.step (f := fun k => (spec_l12Color.f k w h l col).bind _) (fun k => by rw [spec_FewestLots.l0, if_pos (by omega)]) (Ev.bind hcol (Ev.bind h1 ?_))
    by_cases e : n = c
    · have hsm : (srch S n S.length q []).isSome = true := h2.2 (by
        rcases i2 with i2 | ⟨t, a, b, cc⟩
        · exact absurd i2 (by omega)
        · exact ⟨t, a, b, by omega⟩)
      cases hr : srch S n S.length q [] with
      | none => rw [hr] at hsm; cases hsm
      | some r =>
        unfold fewR
        rw [if_neg (by omega), e]
        exact Ev.now _
    · cases hr : srch S n S.length q [] with
      | none =>
        have G := ih (n + 1) (by omega) (by omega)
        rw [show ((n + 1 : Nat) : Int) = (n : Int) + 1 from by omega] at G
        simp only [rsO, Bool.false_eq_true, if_false, wrap_id ((n : Int) + 1) (show -9223372036854775808 ≤ (n : Int) + 1 by omega) (show (n : Int) + 1 ≤ 9223372036854775807 by omega)]
        exact G
      | some r =>
        obtain ⟨t, a, b, cc⟩ := h2.1 (by rw [hr]; rfl)
        have := i3 t a b
        omega
theorem FewestLots_same (w h : Int) (l : List Int) (c : Int) (q : List Int) (hl : l.length ≤ 2000000) (hq : q.length ≤ 2000000) : ∃ r : Int × Bool, Ev (fun k => spec_FewestLots.f k w h l c q) r ∧ Ev (fun k => impl_FewestLots.f k w h l c q) r := by
  unfold spec_FewestLots.f impl_FewestLots.f
  have hs := specAsked_ev w h l c q hl hq
  have hj0 : Ev (fun k => spec_FewestLots.j0 k c q true w h l) (0, false) := Ev.step (f := fun _ => some (0, false)) (fun k => by rw [spec_FewestLots.j0, if_pos rfl]) (Ev.now _)
  have no : ∀ S : List Int, (okChart w h l && (rng c 0 5 && okLots q)) = false → (okChart w h l = true → Ev (fun k => impl_Chart_sizesOf.f k w h l c) S) → ∃ r : Int × Bool, Ev (fun k => (spec_l12Asked.f k w h l c q).bind fun t249 => (if t249 = true then ((spec_l12Color.f k w h l c).bind fun t250 => (spec_FewestLots.j0 k c q (decide ((t250.length : Int) > 8)) w h l)) else (spec_FewestLots.j0 k c q true w h l))) r ∧ Ev (fun k => (impl_hasFewAreas.f k w h l c q).bind fun t353 => (if t353 = true then ((impl_Chart_sizesOf.f k w h l c).bind fun t354 => (impl_FewestLots.l0 k q t354 (wrap64 ((q.length : Int) + 1)) (shl .i64 1 (q.length : Int)) 0)) else (some (0, false)))) r := fun S hn hS => by
    have h1 := hasFew_ev w h l c q S hS
    rw [hn] at hs h1
    exact ⟨(0, false), Ev.bind hs (by simp only [Bool.false_eq_true, if_false]; exact hj0), Ev.bind h1 (by simp only [Bool.false_and, Bool.false_eq_true, if_false]; exact Ev.now _)⟩
  cases hk : (okChart w h l && (rng c 0 5 && okLots q)) with
  | false =>
    cases hc : okChart w h l with
    | false => exact no [] hk (fun h => by rw [hc] at h; cases h)
    | true =>
      obtain ⟨S, _, _, hb⟩ := sizesOf_same w h l hc c
      exact no S hk (fun _ => hb)
  | true =>
    rw [hk] at hs
    have hok := hk
    rw [Bool.and_eq_true, Bool.and_eq_true] at hok
    obtain ⟨S, ⟨⟨z1, z2⟩, z3⟩, ha, hb⟩ := sizesOf_same2 w h l hok.1 c
    have h1 := hasFew_ev w h l c q S (fun _ => hb)
    rw [hk] at h1
    by_cases h8 : (S.length : Int) ≤ 8
    · rw [decide_eq_true h8] at h1
      obtain ⟨r, ⟨m, hm, rfl⟩, h2⟩ := few_lots S q z2 z3 z1 hok.2.2
      have h3 := few_spec w h l c S q ha z2 z1 hok.2.2 m hm (q.length + 1) 0 (by omega) (Nat.zero_le _)
      refine ⟨fewR q m, Ev.bind hs ?_, Ev.bind h1 ?_⟩
      · simp only [if_true]
        refine Ev.bind ha ?_
        rw [decide_eq_false (show ¬ (S.length : Int) > 8 by omega)]
        exact Ev.step (fun k => by rw [spec_FewestLots.j0, if_neg (by decide)]; rfl) h3
      · simp only [Bool.and_self, if_true]
        exact Ev.bind hb h2
    · rw [decide_eq_false h8] at h1
      refine ⟨(0, false), Ev.bind hs ?_, Ev.bind h1 ?_⟩
      · simp only [if_true]
        refine Ev.bind ha ?_
        rw [decide_eq_true (show (S.length : Int) > 8 by omega)]
        exact hj0
      · simp only [Bool.and_false, Bool.false_eq_true, if_false]
        exact Ev.now _
theorem fits_two (S q A : List Int) (hS : ∀ j : Nat, 0 ≤ S.getD j 0 ∧ S.getD j 0 ≤ 64) (hq : okLots q = true) (hA : A.length = S.length) (h64 : S.length ≤ 64) : ∃ r : Bool × Bool, True ∧ Ev (fun k => (spec_l12Fits.l0 k S q A (List.replicate q.length 0) 0).bind fun t => some (t, true)) r ∧ Ev (fun k => impl_IsAssignment.l0 k q S q A (A.length : Int) 0) r := by
  obtain ⟨q1, q2, q3⟩ := okLots_iff q hq
  refine Ev.two (fun k i (u : List Int) => (spec_l12Fits.l0 k S q A u i).bind fun t => some (t, true)) (fun k i (v : List Int) => impl_IsAssignment.l0 k q S v A (A.length : Int) i) A.length (fun i u v => u.length = q.length ∧ v.length = q.length ∧ ∀ j : Nat, j < q.length → 0 ≤ u.getD j 0 ∧ u.getD j 0 ≤ q.getD j 0 ∧ v.getD j 0 = q.getD j 0 - u.getD j 0) (fun _ => True)
    (fun u v hs => ?_) (fun i u v hi hs => ?_) (List.replicate q.length 0) q ⟨by simp, rfl, fun j hj => by
      have := q1 j hj
      have ez : (List.replicate q.length (0 : Int)).getD j 0 = 0 := by rw [List.getD_eq_getElem?_getD, List.getElem?_replicate, if_pos hj]; rfl
      rw [ez]
      omega⟩
  · exact ⟨(true, true), trivial, Ev.step (f := fun _ => some (true, true)) (fun k => by rw [spec_l12Fits.l0, if_neg (by omega)]; rfl) (Ev.now _), Ev.step (f := fun _ => some (true, true)) (fun k => by rw [impl_IsAssignment.l0, if_neg (by omega)]) (Ev.now _)⟩
  · obtain ⟨u1, v1, huv⟩ := hs
    obtain ⟨a, ha⟩ : ∃ a, a = A.getD i 0 := ⟨_, rfl⟩
    have e0 : rd A (i : Int) = a := by rw [ha]; rfl
    have eS : rd S (i : Int) = S.getD i 0 := rfl
    have hSi := hS i
    have w1 : wrap64 ((q.length : Int) - 1) = (q.length : Int) - 1 := wrap_id _ (by omega) (by omega)
    cases hin : rng a 0 ((q.length : Int) - 1) with
    | false =>
      refine .inl ⟨(false, true), trivial, Ev.step (f := fun k => (spec_l12Fits.j1 k S q A u i a true).bind fun t => some (t, true)) (fun k => ?_) (Ev.step (f := fun _ => some (false, true)) (fun k => by rw [spec_l12Fits.j1, if_pos rfl]; rfl) (Ev.now _)), Ev.step (f := fun _ => some (false, true)) (fun k => ?_) (Ev.now _)⟩
      · rw [spec_l12Fits.l0, if_pos (by omega), if_pos (by omega), e0, w1, l1In_eq, hin]
        rfl
      · rw [impl_IsAssignment.l0, if_pos (by omega), if_pos (by omega), if_pos (by omega), e0, w1, in_eq, hin]
        rfl
    | true =>
      have hin2 := (rng_iff _ _ _).1 hin
      obtain ⟨x1, x2, x3⟩ := huv a.toNat (by omega)
      have x4 := q1 a.toNat (by omega)
      have eu : rd u a = u.getD a.toNat 0 := rfl
      have ev : rd v a = v.getD a.toNat 0 := rfl
      have eq : rd q a = q.getD a.toNat 0 := rfl
      have hset : rd (u.set a.toNat (u.getD a.toNat 0 + S.getD i 0)) a = u.getD a.toNat 0 + S.getD i 0 := by
        have : rd (u.set a.toNat (u.getD a.toNat 0 + S.getD i 0)) a = (u.set a.toNat (u.getD a.toNat 0 + S.getD i 0)).getD a.toNat 0 := rfl
        rw [this, getD_set, if_pos ⟨rfl, by omega⟩]
      have hs1 : ∀ k, spec_l12Fits.l0 (k + 1) S q A u (i : Int) = spec_l12Fits.j1 k S q A u i a false := fun k => by
        rw [spec_l12Fits.l0, if_pos (by omega), if_pos (by omega), e0, w1, l1In_eq, hin, Option.bind_some, if_pos rfl, decide_eq_false (show ¬ (i : Int) ≥ (S.length : Int) by omega)]
      have hs2 : ∀ k, spec_l12Fits.j1 (k + 1) S q A u (i : Int) a false = if u.getD a.toNat 0 + S.getD i 0 > q.getD a.toNat 0 then some false else spec_l12Fits.l0 k S q A (u.set a.toNat (u.getD a.toNat 0 + S.getD i 0)) ((i : Int) + 1) := fun k => by
        rw [spec_l12Fits.j1, if_neg (by decide), if_pos (by omega), if_pos (by omega), if_pos (by omega), if_pos (by omega), eu, eS, wrap_id (u.getD a.toNat 0 + S.getD i 0) (by omega) (by omega), Option.bind_some, if_pos (by omega), hset, eq, wrap_id ((i : Int) + 1) (by omega) (by omega)]
      have hi1 : ∀ k, impl_IsAssignment.l0 (k + 1) q S v A (A.length : Int) (i : Int) = if v.getD a.toNat 0 < S.getD i 0 then some (false, true) else impl_IsAssignment.l0 k q S (v.set a.toNat (v.getD a.toNat 0 - S.getD i 0)) A (A.length : Int) ((i : Int) + 1) := fun k => by
        rw [impl_IsAssignment.l0, if_pos (by omega), if_pos (by omega), if_pos (by omega), e0, w1, in_eq, hin, Option.bind_some, if_pos rfl, if_pos (by omega), if_pos (by omega), if_pos (by omega), ev, eS, wrap_id (v.getD a.toNat 0 - S.getD i 0) (by omega) (by omega), wrap_id ((i : Int) + 1) (by omega) (by omega)]
      by_cases c : u.getD a.toNat 0 + S.getD i 0 > q.getD a.toNat 0
      · refine .inl ⟨(false, true), trivial, Ev.step (f := fun k => (spec_l12Fits.j1 k S q A u i a false).bind fun t => some (t, true)) (fun k => by rw [hs1]) (Ev.step (f := fun _ => some (false, true)) (fun k => by rw [hs2, if_pos c]; rfl) (Ev.now _)), Ev.step (f := fun _ => some (false, true)) (fun k => by rw [hi1, if_pos (by omega)]) (Ev.now _)⟩
      · refine .inr ⟨u.set a.toNat (u.getD a.toNat 0 + S.getD i 0), v.set a.toNat (v.getD a.toNat 0 - S.getD i 0), ⟨by rw [List.length_set]; exact u1, by rw [List.length_set]; exact v1, fun j hj => ?_⟩, fun r hr => Ev.step (f := fun k => (spec_l12Fits.j1 k S q A u i a false).bind fun t => some (t, true)) (fun k => by rw [hs1]) (Ev.step (fun k => by rw [hs2, if_neg c]) hr), fun r hr => Ev.step (fun k => by rw [hi1, if_neg (by omega)]) hr⟩
        rw [getD_set, getD_set]
        have := huv j hj
        by_cases e : a.toNat = j
        · subst e
          rw [if_pos ⟨rfl, by omega⟩, if_pos ⟨rfl, by omega⟩]
          omega
        · rw [if_neg (fun h => e h.1), if_neg (fun h => e h.1)]
          exact this
theorem IsAssignment_same (w h : Int) (l : List Int) (c : Int) (q A : List Int) (hl : l.length ≤ 2000000) (hq : q.length ≤ 2000000) : ∃ r : Bool × Bool, Ev (fun k => spec_IsAssignment.f k w h l c q A) r ∧ Ev (fun k => impl_IsAssignment.f k w h l c q A) r := by
  unfold spec_IsAssignment.f impl_IsAssignment.f
  simp only [IsChart_eq, isColor_eq, areLots_eq, Option.bind_some]
  have hs := specAsked_ev w h l c q hl hq
  have hj0 : Ev (fun k => impl_IsAssignment.j0 k c q A true w h l) (false, false) := Ev.step (f := fun _ => some (false, false)) (fun k => by rw [impl_IsAssignment.j0, if_pos rfl]) (Ev.now _)
  cases hk : okChart w h l with
  | false =>
    rw [hk] at hs
    exact ⟨(false, false), Ev.bind hs (by simp only [Bool.false_and, Bool.false_eq_true, if_false]; exact Ev.now _), by simp only [Bool.false_eq_true, if_false]; exact hj0⟩
  | true =>
    rw [hk] at hs
    cases hc : rng c 0 5 with
    | false =>
      rw [hc] at hs
      exact ⟨(false, false), Ev.bind hs (by simp only [Bool.false_and, Bool.true_and, Bool.false_eq_true, if_false]; exact Ev.now _), by simp only [Bool.false_eq_true, if_true, if_false]; exact hj0⟩
    | true =>
      rw [hc] at hs
      cases ho : okLots q with
      | false =>
        rw [ho] at hs
        exact ⟨(false, false), Ev.bind hs (by simp only [Bool.and_false, Bool.false_eq_true, if_false]; exact Ev.now _), by simp only [if_true, Bool.not_false]; exact hj0⟩
      | true =>
        rw [ho] at hs
        obtain ⟨S, ⟨z1, z2⟩, ha, hb⟩ := sizesOf_same w h l hk c
        have ecl : slices_Clone_int.f q = some q := by unfold slices_Clone_int.f; rw [if_pos (by omega)]
        have step0 : ∀ r, Ev (fun k => if (S.length : Int) = (A.length : Int) then impl_IsAssignment.l0 k q S q A (A.length : Int) 0 else some (false, true)) r → Ev (fun k => impl_IsAssignment.j0 k c q A false w h l) r := fun r hr =>
          Ev.step (f := fun k => (impl_Chart_sizesOf.f k w h l c).bind fun t => (slices_Clone_int.f q).bind fun u => if (t.length : Int) = (A.length : Int) then impl_IsAssignment.l0 k q t u A (A.length : Int) 0 else some (false, true)) (fun k => by rw [impl_IsAssignment.j0, if_neg (by decide)]) (Ev.bind hb (by simp only [ecl, Option.bind_some]; exact hr))
        by_cases e : A.length = S.length
        · obtain ⟨r, _, h1, h2⟩ := fits_two S q A z2 ho e z1
          refine ⟨r, Ev.bind hs ?_, ?_⟩
          · simp only [Bool.and_self, if_true]
            refine Ev.bind ha ?_
            unfold spec_l12Fits.f
            simp only [if_pos (show (A.length : Int) = (S.length : Int) by omega), if_pos (show 0 ≤ (q.length : Int) by omega), Int.toNat_natCast, if_pos (show q.length ≤ 35184372088832 by omega)]
            exact h1
          · simp only [if_true, Bool.not_true]
            exact step0 r (by simp only [if_pos (show (S.length : Int) = (A.length : Int) by omega)]; exact h2)
        · refine ⟨(false, true), Ev.bind hs ?_, ?_⟩
          · simp only [Bool.and_self, if_true]
            refine Ev.bind ha ?_
            simp only [if_neg (show ¬ (A.length : Int) = (S.length : Int) by omega)]
            exact Ev.now _
          · simp only [if_true, Bool.not_true]
            exact step0 _ (by simp only [if_neg (show ¬ (S.length : Int) = (A.length : Int) by omega)]; exact Ev.now _)
theorem Ev.uniq {α : Type} {g : Nat → Option α} {a b : α} (h : Ev g a) (k : Ev g b) : a = b := by
  obtain ⟨K1, h1⟩ := h
  obtain ⟨K2, h2⟩ := k
  have e1 := h1 (K1 + K2) (by omega)
  rw [h2 (K1 + K2) (by omega)] at e1
  exact (Option.some.inj e1).symm
theorem great_spec (S : List Int) (hl : 1 ≤ S.length ∧ S.length ≤ 64) : ∃ r : Int × Int × Bool, (∃ b : Nat, b < S.length ∧ r = ((b : Int), S.getD b 0, true) ∧ (∀ j : Nat, j < S.length → S.getD j 0 ≤ S.getD b 0) ∧ ∀ j : Nat, j < b → S.getD j 0 < S.getD b 0) ∧ Ev (fun k => spec_GreatestArea.l0 k S 0 1) r := by
  refine Ev.loopE (fun k i (b : Nat) => spec_GreatestArea.l0 k S (b : Int) (i + 1)) (S.length - 1) (fun i b => b < i + 1 ∧ (∀ j : Nat, j < i + 1 → S.getD j 0 ≤ S.getD b 0) ∧ ∀ j : Nat, j < b → S.getD j 0 < S.getD b 0) _ (fun b hb => ?_) (fun i b hi hb => ?_) 0 ⟨by omega, fun j hj => by rw [show j = 0 by omega]; exact Int.le_refl _, fun j hj => absurd hj (by omega)⟩
  · obtain ⟨b1, b2, b3⟩ := hb
    have e0 : rd S (b : Int) = S.getD b 0 := rfl
    exact ⟨_, ⟨b, by omega, rfl, fun j hj => b2 j (by omega), b3⟩, Ev.step (f := fun _ => some _) (fun k => by rw [spec_GreatestArea.l0, if_neg (by omega), if_pos (by omega), if_pos (by omega), e0]) (Ev.now _)⟩
  · obtain ⟨b1, b2, b3⟩ := hb
    have e0 : rd S (b : Int) = S.getD b 0 := rfl
    have e1 : rd S ((i : Int) + 1) = S.getD (i + 1) 0 := by unfold rd; rw [show ((i : Int) + 1).toNat = i + 1 by omega]
    by_cases c : S.getD (i + 1) 0 > S.getD b 0
    · refine ⟨i + 1, ⟨by omega, fun j hj => ?_, fun j hj => ?_⟩, fun r h => Ev.step (fun k => ?_) h⟩
      · by_cases hji : j = i + 1
        · rw [hji]; exact Int.le_refl _
        · have := b2 j (by omega); omega
      · have := b2 j (by omega); omega
      · rw [spec_GreatestArea.l0, if_pos (by omega), if_pos (by omega), if_pos (by omega), if_pos (by omega), e1, e0, if_pos c, wrap_id _ (by omega) (by omega)]
        rfl
    · refine ⟨b, ⟨by omega, fun j hj => ?_, b3⟩, fun r h => Ev.step (fun k => ?_) h⟩
      · by_cases hji : j = i + 1
        · rw [hji]; omega
        · exact b2 j (by omega)
      · rw [spec_GreatestArea.l0, if_pos (by omega), if_pos (by omega), if_pos (by omega), if_pos (by omega), e1, e0, if_neg c, wrap_id _ (by omega) (by omega)]
theorem max_ev (S : List Int) (hl : 1 ≤ S.length ∧ S.length ≤ 64) (b : Nat) (hb : b < S.length) (hm : ∀ j : Nat, j < S.length → S.getD j 0 ≤ S.getD b 0) : Ev (fun k => slices_Max_int_int.f k S) (S.getD b 0) := by
  have e0 : rd S 0 = S.getD 0 0 := rfl
  unfold slices_Max_int_int.f
  simp only [if_neg (show ¬ (S.length : Int) < 1 by omega), if_pos (show 0 < (S.length : Int) by omega)]
  obtain ⟨r, hr, h1⟩ := Ev.loopE (fun k i (m : Int) => slices_Max_int_int.l0 k S m (i + 1)) (S.length - 1) (fun i m => m ≤ S.getD b 0 ∧ ∀ j : Nat, j < i + 1 → S.getD j 0 ≤ m) (fun r => r = S.getD b 0)
    (fun m hm2 => ⟨m, by have := hm2.1; have := hm2.2 b (by omega); omega, Ev.step (f := fun _ => some m) (fun k => by rw [slices_Max_int_int.l0, if_neg (by omega)]) (Ev.now _)⟩)
    (fun i m hi hm2 => by
      have e1 : rd S ((i : Int) + 1) = S.getD (i + 1) 0 := by unfold rd; rw [show ((i : Int) + 1).toNat = i + 1 by omega]
      have e2 : mx m (S.getD (i + 1) 0) = max m (S.getD (i + 1) 0) := by unfold mx; omega
      refine ⟨max m (S.getD (i + 1) 0), ⟨by have := hm (i + 1) (by omega); have := hm2.1; omega, fun j hj => ?_⟩, fun r h => Ev.step (fun k => ?_) h⟩
      · by_cases hji : j = i + 1
        · rw [hji]; omega
        · have := hm2.2 j (by omega); omega
      · rw [slices_Max_int_int.l0, if_pos (by omega), if_pos (by omega), e1, e2, wrap_id _ (by omega) (by omega)]) (rd S 0) ⟨by rw [e0]; exact hm 0 (by omega), fun j hj => by rw [show j = 0 by omega, e0]; exact Int.le_refl _⟩
  subst hr
  exact h1
theorem index_ev (S : List Int) (hl : S.length ≤ 64) (b : Nat) (hb : b < S.length) (hne : ∀ j : Nat, j < b → S.getD j 0 < S.getD b 0) : Ev (fun k => slices_Index_int_int.f k S (S.getD b 0)) (b : Int) := by
  unfold slices_Index_int_int.f
  have key : ∀ d i : Nat, i + d = b → Ev (fun k => slices_Index_int_int.l0 k S (S.getD b 0) (S.length : Int) (i : Int)) (b : Int) := by
    intro d
    induction d with
    | zero =>
      intro i hi
      have e0 : rd S (i : Int) = S.getD b 0 := by rw [show i = b by omega]; rfl
      exact Ev.step (f := fun _ => some (b : Int)) (fun k => by rw [slices_Index_int_int.l0, if_pos (by omega), if_pos (by omega), if_pos (by omega), e0, if_pos rfl, show i = b by omega]) (Ev.now _)
    | succ d ih =>
      intro i hi
      have e0 : rd S (i : Int) = S.getD i 0 := rfl
      have := hne i (by omega)
      have h1 := ih (i + 1) (by omega)
      have e : ((i + 1 : Nat) : Int) = (i : Int) + 1 := by omega
      rw [e] at h1
      exact Ev.step (fun k => by rw [slices_Index_int_int.l0, if_pos (by omega), if_pos (by omega), if_pos (by omega), e0, if_neg (by omega), wrap_id _ (by omega) (by omega)]) h1
  exact key b 0 (by omega)
theorem asg_goes (S : List Int) : ∀ (n : Nat) (l b r : List Int), asg S n l b = some r → ∃ A : List Nat, A.length = n ∧ goes S b.length l A ∧ r = b ++ A.map fun a : Nat => (a : Int) := by
  intro n
  induction n with
  | zero => intro l b r h; exact ⟨[], rfl, trivial, by rw [← Option.some.inj h, List.map_nil, List.append_nil]⟩
  | succ n ih =>
    intro l b r h
    rw [asg] at h
    have key : ∀ m : Nat, m ≤ l.length → tryL (asgF S l b (asg S n)) m = some r → ∃ A : List Nat, A.length = n + 1 ∧ goes S b.length l A ∧ r = b ++ A.map fun a : Nat => (a : Int) := by
      intro m
      induction m with
      | zero => intro _ h; cases h
      | succ m ihm =>
        intro hm h
        rw [tryL] at h
        cases ht : tryL (asgF S l b (asg S n)) m with
        | some r' =>
          rw [ht] at h
          replace h : some r' = some r := h
          obtain rfl := Option.some.inj h
          exact ihm (by omega) ht
        | none =>
          rw [ht] at h
          replace h : asgF S l b (asg S n) m = some r := h
          unfold asgF at h
          split at h
          · cases h
          · obtain ⟨A, hA, hg, hr⟩ := ih _ _ _ h
            rw [List.length_append, List.length_singleton] at hg
            exact ⟨m :: A, by rw [List.length_cons, hA], ⟨by omega, by omega, hg⟩, by rw [hr, List.append_assoc, List.singleton_append, List.map_cons]⟩
    exact key _ (Nat.le_refl _) h
theorem goes_lft (S : List Int) (A : List Nat) : ∀ (i : Nat) (l : List Int), goes S i l A → (lft S i l (A.map fun a : Nat => (a : Int))).isSome = true := by
  induction A with
  | nil => intro i l _; rfl
  | cons a A ih =>
    rintro i l ⟨h1, h2, h3⟩
    have hc : cnd S l i (a : Int) = true := by unfold cnd; rw [(rng_iff (a : Int) 0 ((l.length : Int) - 1)).2 (by omega), Int.toNat_natCast, decide_eq_true h2]; rfl
    rw [List.map_cons, lft, if_pos hc]
    unfold tak
    rw [Int.toNat_natCast]
    exact ih _ _ h3
theorem dif_le (r : List Int) : ∀ p : List Int, dif p r ≤ r.length := by
  induction r with
  | nil => intro p; exact Nat.le_refl 0
  | cons x r ih => intro p; rw [dif, List.length_cons]; have := ih (p ++ [x]); split <;> omega
theorem lots_val (w h : Int) (l : List Int) (c : Int) (q : List Int) (hl : l.length ≤ 2000000) (hq : q.length ≤ 2000000) : ∃ (r : List Int × Bool) (v : Int × Bool), r.1.length ≤ 64 ∧ Ev (fun k => spec_FirstAssignment.f k w h l c q) r ∧ Ev (fun k => impl_FirstAssignment.f k w h l c q) r ∧ Ev (fun k => spec_FewestLots.f k w h l c q) v ∧ Ev (fun k => impl_FewestLots.f k w h l c q) v ∧ v.2 = r.2 ∧ (r.2 = true → Ev (fun k => impl_IsAssignment.f k w h l c q r.1) (true, true) ∧ v.1 ≤ (dif [] r.1 : Nat) ∧ v.1 ≤ (r.1.length : Int)) := by
  obtain ⟨r, r1, r2, r3⟩ := FirstAssignment_same w h l c q hl hq
  obtain ⟨v, v2, v3⟩ := FewestLots_same w h l c q hl hq
  refine ⟨r, v, r1, r2, r3, v2, v3, ?_⟩
  have hs := specAsked_ev w h l c q hl hq
  cases hk : (okChart w h l && (rng c 0 5 && okLots q)) with
  | false =>
    rw [hk] at hs
    have f1 : Ev (fun k => spec_FirstAssignment.f k w h l c q) ([], false) := by
      unfold spec_FirstAssignment.f
      exact Ev.bind hs (by simp only [Bool.false_eq_true, if_false]; exact Ev.step (f := fun _ => some ([], false)) (fun k => by rw [spec_FirstAssignment.j0, if_pos rfl]) (Ev.now _))
    have f2 : Ev (fun k => spec_FewestLots.f k w h l c q) (0, false) := by
      unfold spec_FewestLots.f
      exact Ev.bind hs (by simp only [Bool.false_eq_true, if_false]; exact Ev.step (f := fun _ => some (0, false)) (fun k => by rw [spec_FewestLots.j0, if_pos rfl]) (Ev.now _))
    rw [Ev.uniq r2 f1, Ev.uniq v2 f2]
    exact ⟨rfl, fun h => by cases h⟩
  | true =>
    rw [hk] at hs
    have hok := hk
    rw [Bool.and_eq_true, Bool.and_eq_true] at hok
    obtain ⟨S, ⟨⟨z1, z2⟩, z3⟩, ha, hb⟩ := sizesOf_same2 w h l hok.1 c
    obtain ⟨q1, q2, q3⟩ := okLots_iff q hok.2.2
    by_cases h8 : (S.length : Int) ≤ 8
    · have h2 := search_ev S q q.length z2 hok.2.2 z1 S.length q [] (by rw [List.length_nil]; omega) rfl
      rw [srch_asg S q.length S.length q [] (Nat.le_refl _) (fun x hx => by cases hx)] at h2
      obtain ⟨_, ⟨m, hm, _⟩, _⟩ := few_lots S q z2 z3 z1 hok.2.2
      have h3 := few_spec w h l c S q ha z2 z1 hok.2.2 m hm (q.length + 1) 0 (by omega) (Nat.zero_le _)
      have f1 : Ev (fun k => spec_FirstAssignment.f k w h l c q) (rsO (asg S S.length q [])) := by
        unfold spec_FirstAssignment.f
        refine Ev.bind hs ?_
        simp only [if_true]
        refine Ev.bind ha ?_
        rw [decide_eq_false (show ¬ (S.length : Int) > 8 by omega)]
        exact Ev.step (f := fun k => (spec_l12Color.f k w h l c).bind _) (fun k => by rw [spec_FirstAssignment.j0, if_neg (by decide)]) (Ev.bind ha (Ev.bind h2 (Ev.now _)))
      have f2 : Ev (fun k => spec_FewestLots.f k w h l c q) (fewR q m) := by
        unfold spec_FewestLots.f
        refine Ev.bind hs ?_
        simp only [if_true]
        refine Ev.bind ha ?_
        rw [decide_eq_false (show ¬ (S.length : Int) > 8 by omega)]
        exact Ev.step (fun k => by rw [spec_FewestLots.j0, if_neg (by decide)]; rfl) h3
      rw [Ev.uniq r2 f1, Ev.uniq v2 f2]
      obtain ⟨i1, i2, i3⟩ := hm
      cases hr : asg S S.length q [] with
      | none =>
        have hno : q.length < m := by
          rcases i2 with i2 | ⟨t, a, b, cc⟩
          · omega
          · obtain ⟨A, hA, hg, hbt⟩ := b
            have := (asg_iff S S.length q []).2 ⟨A, hA, hg⟩
            rw [hr] at this
            cases this
        unfold fewR
        rw [if_pos hno]
        exact ⟨rfl, fun h => by cases h⟩
      | some a =>
        obtain ⟨A, hA, hg, hra⟩ := asg_goes S _ _ _ _ hr
        rw [List.nil_append] at hra
        have hsm : (srch S (dif [] a) S.length q []).isSome = true := (srch_iff S (dif [] a) S.length q []).2 ⟨A, hA, hg, by rw [List.nil_append, ← hra]; exact Nat.le_refl _⟩
        obtain ⟨t, t1, t2, t3⟩ := (good_srch S q (dif [] a)).1 hsm
        have hle := i3 t t1 t2
        have hcn := cn_le (bitN t) q.length
        have hdl := dif_le a []
        have hal : a.length = S.length := by rw [hra, List.length_map, hA]
        unfold fewR
        rw [if_neg (by omega)]
        refine ⟨rfl, fun _ => ⟨?_, ?_, ?_⟩⟩
        · obtain ⟨x, x1, x2⟩ := IsAssignment_same w h l c q a hl hq
          have hf := fits_ev S q a z2 hok.2.2 (by omega) z1
          have hlf := goes_lft S A 0 q hg
          rw [← hra] at hlf
          rw [hlf] at hf
          have g1 : Ev (fun k => spec_IsAssignment.f k w h l c q a) (true, true) := by
            unfold spec_IsAssignment.f
            refine Ev.bind hs ?_
            simp only [if_true]
            refine Ev.bind ha ?_
            simp only [if_pos (show (a.length : Int) = (S.length : Int) by omega)]
            exact Ev.bind hf (Ev.now _)
          rw [Ev.uniq x1 g1] at x2
          exact x2
        · show ((m : Nat) : Int) ≤ ((dif [] a : Nat) : Int)
          omega
        · show ((m : Nat) : Int) ≤ _
          show ((m : Nat) : Int) ≤ (a.length : Int)
          omega
    · have f1 : Ev (fun k => spec_FirstAssignment.f k w h l c q) ([], false) := by
        unfold spec_FirstAssignment.f
        refine Ev.bind hs ?_
        simp only [if_true]
        refine Ev.bind ha ?_
        rw [decide_eq_true (show (S.length : Int) > 8 by omega)]
        exact Ev.step (f := fun _ => some ([], false)) (fun k => by rw [spec_FirstAssignment.j0, if_pos rfl]) (Ev.now _)
      have f2 : Ev (fun k => spec_FewestLots.f k w h l c q) (0, false) := by
        unfold spec_FewestLots.f
        refine Ev.bind hs ?_
        simp only [if_true]
        refine Ev.bind ha ?_
        rw [decide_eq_true (show (S.length : Int) > 8 by omega)]
        exact Ev.step (f := fun _ => some (0, false)) (fun k => by rw [spec_FewestLots.j0, if_pos rfl]) (Ev.now _)
      rw [Ev.uniq r2 f1, Ev.uniq v2 f2]
      exact ⟨rfl, fun h => by cases h⟩
theorem great_same (w h : Int) (t : List Int) (ht : t.length ≤ 2000000) : ∃ r : Int × Int × Bool, Ev (fun k => spec_GreatestArea.f k w h t) r ∧ Ev (fun k => impl_GreatestArea.f k w h t) r := by
  unfold spec_GreatestArea.f impl_GreatestArea.f
  simp only [IsChart_eq, Option.bind_some]
  cases hk : okChart w h t with
  | false => exact ⟨(0, 0, false), Ev.bind (l2Good_ev _ _ _ (by omega)) (by simp only [hk, Bool.false_eq_true, if_false]; exact Ev.now _), by simp only [Bool.false_eq_true, if_false]; exact Ev.now _⟩
  | true =>
    obtain ⟨⟨S, C⟩, ⟨z1, z2, z3, z4⟩, ha, hb⟩ := sizes_same _ _ _ hk
    dsimp only at z1 z2 z3 z4
    obtain ⟨r, ⟨b, b1, b2, b3, b4⟩, hr⟩ := great_spec S ⟨z2, z3⟩
    subst b2
    exact ⟨_, Ev.bind (l2Good_ev _ _ _ (by omega)) (by simp only [hk, if_true]; exact Ev.bind ha hr), by simp only [if_true]; exact Ev.bind hb (Ev.bind (max_ev S ⟨z2, z3⟩ b b1 b3) (Ev.bind (index_ev S z3 b b1 b4) (Ev.now _)))⟩
theorem vHas_ev (l : List Int) (a : Int) (hl : l.length ≤ 1000) : Ev (fun k => laws_vHas.f k l a) (decide (a ∈ l)) := by
  have key : ∀ d i : Nat, i + d = l.length → Ev (fun k => laws_vHas.l0 k l a (i : Int)) (decide (a ∈ l.drop i)) := by
    intro d
    induction d with
    | zero =>
      intro i hi
      rw [List.drop_eq_nil_of_le (by omega)]
      exact Ev.step (f := fun _ => some false) (fun k => by rw [laws_vHas.l0, if_neg (by omega)]) (Ev.now _)
    | succ d ih =>
      intro i hi
      have hlt : i < l.length := by omega
      have e0 : rd l (i : Int) = l[i] := by
        show l.getD i 0 = _
        rw [List.getD_eq_getElem?_getD, List.getElem?_eq_getElem hlt]; rfl
      rw [List.drop_eq_getElem_cons hlt]
      by_cases c : l[i] = a
      · rw [decide_eq_true (by rw [c]; simp)]
        exact Ev.step (f := fun _ => some true) (fun k => by rw [laws_vHas.l0, if_pos (by omega), if_pos (by omega), e0, if_pos c]) (Ev.now _)
      · have G := ih (i + 1) (by omega)
        rw [show ((i + 1 : Nat) : Int) = (i : Int) + 1 from by omega] at G
        have e : decide (a ∈ l[i] :: l.drop (i + 1)) = decide (a ∈ l.drop (i + 1)) := by
          rw [decide_eq_decide, List.mem_cons]
          exact ⟨fun h => h.elim (fun h => absurd h.symm c) id, .inr⟩
        rw [e]
        exact Ev.step (fun k => by rw [laws_vHas.l0, if_pos (by omega), if_pos (by omega), e0, if_neg c, wrap_id ((i : Int) + 1) (by omega) (by omega)]) G
  exact key l.length 0 (by omega)
theorem low8 (y : Int) : 0 ≤ Go.bits .and .u64 y 255 ∧ Go.bits .and .u64 y 255 ≤ 255 := by
  have h : ((BitVec.ofInt 64 y) &&& (BitVec.ofInt 64 255)).toNat ≤ 255 := by
    rw [BitVec.toNat_and]
    exact Nat.le_trans Nat.and_le_right (by decide)
  have e : Go.bits .and .u64 y 255 = IntKind.u64.wrap ((((BitVec.ofInt 64 y) &&& (BitVec.ofInt 64 255)).toNat : Nat) : Int) := rfl
  have e2 : ∀ n : Nat, n ≤ 255 → IntKind.u64.wrap (n : Int) = (n : Int) := fun n hn => by
    show (n : Int) % 18446744073709551616 = (n : Int)
    omega
  rw [e, e2 _ h]
  omega
def codeOk (code : List Int) : Prop := code.length ≤ 70000 ∧ ∀ i : Int, 0 ≤ rd code i ∧ rd code i ≤ 255
theorem codeOk_of (code : List Int) (hl : code.length ≤ 70000) (h : ∀ x ∈ code, (Lit.int .u8 x).wf = true) : codeOk code := by
  refine ⟨hl, fun i => ?_⟩
  unfold rd
  rw [List.getD_eq_getElem?_getD]
  by_cases c : i.toNat < code.length
  · rw [List.getElem?_eq_getElem c]
    have := h _ (List.getElem_mem c)
    have h3 : (decide (IntKind.u8.min ≤ code[i.toNat]) && decide (code[i.toNat] ≤ IntKind.u8.max)) = true := this
    rw [Bool.and_eq_true, decide_eq_true_iff, decide_eq_true_iff, show IntKind.u8.min = 0 by decide, show IntKind.u8.max = 255 by decide] at h3
    exact h3
  · rw [List.getElem?_eq_none (by omega)]
    exact ⟨by decide, by decide⟩
theorem next_ok (code : List Int) (hc : codeOk code) (at_ seed : Int) (h0 : 0 ≤ at_) (h1 : at_ ≤ 1000000) : ∃ x s, spec_l1Cur_next.f code at_ seed = some (x, at_ + 1, s) ∧ 0 ≤ x ∧ x ≤ 255 := by
  have hw : wrap64 (at_ + 1) = at_ + 1 := wrap_id _ (by omega) (by omega)
  have hb := hc.2 at_
  unfold spec_l1Cur_next.f
  rw [hw]
  by_cases c : at_ < (code.length : Int)
  · rw [if_pos c, if_pos h0, if_pos (by omega)]
    exact ⟨_, _, rfl, by rw [wrap_id _ (by omega) (by omega)]; exact hb⟩
  · rw [if_neg c, if_neg (by omega)]
    refine ⟨_, _, rfl, ?_⟩
    have := low8 ((IntKind.u64.wrap ((IntKind.u64.wrap ((IntKind.u64.wrap (seed * 6364136223846793005)))) + 102323)) / 1099511627776)
    rw [wrap_id _ (by omega) (by omega)]
    exact this
theorem pick_ok (code : List Int) (hc : codeOk code) (at_ seed n : Int) (h0 : 0 ≤ at_) (h1 : at_ ≤ 900000) (hn : n ≤ 1000000) : ∃ x a s, spec_l1Cur_pick.f code at_ seed n = some (x, a, s) ∧ 0 ≤ x ∧ (x < n ∨ x = 0) ∧ at_ ≤ a ∧ a ≤ at_ + 2 := by
  unfold spec_l1Cur_pick.f
  by_cases c : n ≤ 1
  · exact ⟨0, at_, seed, by rw [if_pos c], by omega, .inr rfl, by omega, by omega⟩
  · rw [if_neg c]
    obtain ⟨x, s, e, x0, x1⟩ := next_ok code hc at_ seed h0 (by omega)
    rw [e, Option.bind_some]
    dsimp only
    by_cases c2 : n > 200
    · rw [if_pos c2]
      obtain ⟨y, s2, e2, y0, y1⟩ := next_ok code hc (at_ + 1) s (by omega) (by omega)
      rw [e2, Option.bind_some, if_neg (by omega)]
      dsimp only
      rw [wrap_id (x * 256) (by omega) (by omega), wrap_id (x * 256 + y) (by omega) (by omega)]
      exact ⟨_, _, _, rfl, Int.tmod_nonneg _ (by omega), .inl (Int.tmod_lt_of_pos _ (by omega)), by omega, by omega⟩
    · rw [if_neg c2, if_neg (by omega)]
      exact ⟨_, _, _, rfl, Int.tmod_nonneg _ x0, .inl (Int.tmod_lt_of_pos _ (by omega)), by omega, by omega⟩
theorem among_ok (code : List Int) (hc : codeOk code) (at_ seed : Int) (l : List Int) (hl : 0 < l.length ∧ l.length ≤ 1000) (h0 : 0 ≤ at_) (h1 : at_ ≤ 900000) : ∃ x a s, spec_l1Cur_among.f code at_ seed l = some (x, a, s) ∧ x ∈ l ∧ at_ ≤ a ∧ a ≤ at_ + 2 := by
  unfold spec_l1Cur_among.f
  obtain ⟨x, a, s, e, x0, x1, a0, a1⟩ := pick_ok code hc at_ seed (l.length : Int) h0 h1 (by omega)
  rw [e, Option.bind_some]
  dsimp only
  have hx : x < (l.length : Int) := by omega
  rw [if_pos x0, if_pos hx]
  refine ⟨_, a, s, rfl, ?_, a0, a1⟩
  show l.getD x.toNat 0 ∈ l
  rw [List.getD_eq_getElem?_getD, List.getElem?_eq_getElem (by omega)]
  exact List.getElem_mem (by omega)
theorem one_ok (code : List Int) (hc : codeOk code) (at_ seed n : Int) (h0 : 0 ≤ at_) (h1 : at_ ≤ 900000) (hn : n ≤ 1000000) : ∃ x a s, spec_l1Cur_one.f code at_ seed n = some (x, a, s) ∧ at_ ≤ a ∧ a ≤ at_ + 2 := by
  unfold spec_l1Cur_one.f
  obtain ⟨x, a, s, e, _, _, a0, a1⟩ := pick_ok code hc at_ seed n h0 h1 hn
  rw [e, Option.bind_some]
  exact ⟨_, a, s, rfl, a0, a1⟩
theorem plain_l0 (B : Int) (hB : 0 ≤ B ∧ B ≤ 100000) (code : List Int) (hc : codeOk code) (w h cw ch : Int) (hw : 0 ≤ w ∧ w ≤ 9) (hh : 0 ≤ h ∧ h ≤ 9) (d : Nat) : ∀ (i at_ seed : Int) (xs : List Int), 0 ≤ i → i + (d : Int) = w * h → (xs.length : Int) = i → 0 ≤ at_ → at_ ≤ B + 4 * i →
    ∃ (ys : List Int) (a s : Int), (ys.length : Int) = w * h ∧ (0 ≤ a ∧ a ≤ B + 400) ∧ Ev (fun k => spec_l1Cur_plain.l0 k w h i code at_ seed cw ch xs) (cw, ch, ys, a, s) := by
  have p0 : 0 ≤ w * h := Int.mul_nonneg hw.1 hh.1
  have p1 : w * h ≤ 9 * 9 := Int.mul_le_mul hw.2 hh.2 hh.1 (by decide)
  have pw : wrap64 (w * h) = w * h := wrap_id _ (by omega) (by omega)
  induction d with
  | zero =>
    intro i at_ seed xs h0 hi hx a0 a1
    exact ⟨xs, at_, seed, by omega, ⟨a0, by omega⟩, Ev.step (f := fun _ => some (cw, ch, xs, at_, seed)) (fun k => by rw [spec_l1Cur_plain.l0, pw, if_neg (by omega)]) (Ev.now _)⟩
  | succ d ih =>
    intro i at_ seed xs h0 hi hx a0 a1
    obtain ⟨x, b, s, e, _, b0, b1⟩ := among_ok code hc at_ seed [0, 0, 0, 1, 1, 2, 5] (by decide) a0 (by omega)
    have hn : ∀ (v bb ss : Int), b ≤ bb → bb ≤ b + 2 → ∃ (ys : List Int) (a s : Int), (ys.length : Int) = w * h ∧ (0 ≤ a ∧ a ≤ B + 400) ∧ Ev (fun k => spec_l1Cur_plain.l0 k w h (i + 1) code bb ss cw ch (xs ++ [v])) (cw, ch, ys, a, s) := fun v bb ss g0 g1 =>
      ih (i + 1) bb ss (xs ++ [v]) (by omega) (by omega) (by rw [List.length_append, List.length_singleton]; omega) (by omega) (by omega)
    have wi : wrap64 (i + 1) = i + 1 := wrap_id _ (by omega) (by omega)
    have hwp : w ≠ 0 := fun e => by rw [e, Int.zero_mul] at hi; omega
    by_cases c : i ≥ w
    · obtain ⟨o, bb, ss, e2, g0, g1⟩ := one_ok code hc b s 3 (by omega) (by omega) (by omega)
      have wx : wrap64 (i - w) = i - w := wrap_id _ (by omega) (by omega)
      cases o with
      | true =>
        obtain ⟨ys, a, s', h1, h2, h3⟩ := hn (rd xs (i - w)) bb ss g0 g1
        refine ⟨ys, a, s', h1, h2, Ev.step (fun k => ?_) h3⟩
        rw [spec_l1Cur_plain.l0, pw, if_pos (by omega), e, Option.bind_some]
        dsimp only
        by_cases cz : i - w < (xs.length : Int)
        · rw [if_pos c, e2, Option.bind_some]
          dsimp only
          rw [if_pos rfl, wx, if_pos (by omega), if_pos cz, if_pos (by omega), wi]
        · exact absurd hwp (by omega)
      | false =>
        obtain ⟨ys, a, s', h1, h2, h3⟩ := hn x bb ss g0 g1
        refine ⟨ys, a, s', h1, h2, Ev.step (fun k => ?_) h3⟩
        rw [spec_l1Cur_plain.l0, pw, if_pos (by omega), e, Option.bind_some]
        dsimp only
        rw [if_pos c, e2, Option.bind_some]
        dsimp only
        rw [if_neg (by decide), if_pos (by omega), wi]
    · obtain ⟨ys, a, s', h1, h2, h3⟩ := hn x b s (by omega) (by omega)
      refine ⟨ys, a, s', h1, h2, Ev.step (fun k => ?_) h3⟩
      rw [spec_l1Cur_plain.l0, pw, if_pos (by omega), e, Option.bind_some]
      dsimp only
      rw [if_neg c, if_pos (by omega), wi]
theorem plain_ok (code : List Int) (hc : codeOk code) (w h at_ seed : Int) (hw : 0 ≤ w ∧ w ≤ 9) (hh : 0 ≤ h ∧ h ≤ 9) (a0 : 0 ≤ at_) (a1 : at_ ≤ 100000) : ∃ (ys : List Int) (a s : Int), (ys.length : Int) = w * h ∧ ys.length ≤ 81 ∧ (0 ≤ a ∧ a ≤ at_ + 400) ∧ Ev (fun k => spec_l1Cur_plain.f k code at_ seed w h) (w, h, ys, a, s) := by
  have p0 : 0 ≤ w * h := Int.mul_nonneg hw.1 hh.1
  have p1 : w * h ≤ 9 * 9 := Int.mul_le_mul hw.2 hh.2 hh.1 (by decide)
  obtain ⟨ys, a, s, h1, h2, h3⟩ := plain_l0 at_ ⟨a0, a1⟩ code hc w h w h hw hh (w * h).toNat 0 at_ seed [] (by omega) (by omega) (by simp) a0 (by omega)
  exact ⟨ys, a, s, h1, by omega, h2, h3⟩
theorem chart_ok (code : List Int) (hc : codeOk code) (at_ seed : Int) (a0 : 0 ≤ at_) (a1 : at_ ≤ 50000) : ∃ (w h : Int) (ys : List Int) (a s : Int), ys.length ≤ 82 ∧ (0 ≤ a ∧ a ≤ at_ + 3000) ∧ Ev (fun k => spec_l1Cur_chart.f k code at_ seed) (w, h, ys, a, s) := by
  obtain ⟨w, b1, s1, e1, m1, u1, v1⟩ := among_ok code hc at_ seed [1, 2, 3, 3, 4, 4, 5, 6, 8] (by decide) a0 (by omega)
  obtain ⟨h, b2, s2, e2, m2, u2, v2⟩ := among_ok code hc b1 s1 [1, 2, 3, 3, 4, 5, 8] (by decide) (by omega) (by omega)
  have hw : 1 ≤ w ∧ w ≤ 8 := by simp only [List.mem_cons, List.not_mem_nil, or_false] at m1; omega
  have hh : 1 ≤ h ∧ h ≤ 8 := by simp only [List.mem_cons, List.not_mem_nil, or_false] at m2; omega
  obtain ⟨ys, b3, s3, hy, hy2, ha, he⟩ := plain_ok code hc w h b2 s2 ⟨by omega, by omega⟩ ⟨by omega, by omega⟩ (by omega) (by omega)
  have hpos : 0 < w * h := Int.mul_pos (by omega) (by omega)
  obtain ⟨x, b4, s4, e4, x0, x1, u4, v4⟩ := pick_ok code hc b3 s3 40 (by omega) (by omega) (by omega)
  unfold spec_l1Cur_chart.f
  simp only [e1, e2, Option.bind_some]
  by_cases c0 : x = 0
  · obtain ⟨y, b5, s5, e5, y0, y1, u5, v5⟩ := pick_ok code hc b4 s4 (ys.length : Int) (by omega) (by omega) (by omega)
    obtain ⟨z, b6, s6, e6, _, u6, v6⟩ := among_ok code hc b5 s5 [(-1), 6] (by decide) (by omega) (by omega)
    refine ⟨w, h, ys.set y.toNat z, b6, s6, by rw [List.length_set]; omega, ⟨by omega, by omega⟩, Ev.bind he ?_⟩
    have hy3 : y < (ys.length : Int) := by omega
    simp only [e4, Option.bind_some, if_pos c0, e5, e6, if_pos y0, if_pos hy3]
    exact Ev.now _
  · by_cases c1 : x = 1
    · refine ⟨w, h, ys ++ [0], b4, s4, by rw [List.length_append, List.length_singleton]; omega, ⟨by omega, by omega⟩, Ev.bind he ?_⟩
      simp only [e4, Option.bind_some, if_neg c0, if_pos c1, if_pos (show ys.length < 17592186044416 by omega)]
      exact Ev.now _
    · by_cases c2 : x = 2
      · obtain ⟨v, b5, s5, e5, m5, u5, v5⟩ := among_ok code hc b4 s4 [0, 9] (by decide) (by omega) (by omega)
        have hv : 0 ≤ v ∧ v ≤ 9 := by simp only [List.mem_cons, List.not_mem_nil, or_false] at m5; omega
        obtain ⟨zs, b6, s6, hz, hz2, hb, hf⟩ := plain_ok code hc v 1 b5 s5 hv ⟨by omega, by omega⟩ (by omega) (by omega)
        refine ⟨v, 1, zs, b6, s6, by omega, ⟨by omega, by omega⟩, Ev.bind he ?_⟩
        simp only [e4, Option.bind_some, if_neg c0, if_neg c1, if_pos c2, e5]
        exact Ev.bind hf (Ev.now _)
      · refine ⟨w, h, ys, b4, s4, by omega, ⟨by omega, by omega⟩, Ev.bind he ?_⟩
        simp only [e4, Option.bind_some, if_neg c0, if_neg c1, if_neg c2]
        exact Ev.now _
theorem color_ok (code : List Int) (hc : codeOk code) (at_ seed : Int) (h0 : 0 ≤ at_) (h1 : at_ ≤ 900000) : ∃ x a s, spec_l1Cur_color.f code at_ seed = some (x, a, s) ∧ at_ ≤ a ∧ a ≤ at_ + 2 := by
  unfold spec_l1Cur_color.f
  obtain ⟨x, a, s, e, _, a0, a1⟩ := among_ok code hc at_ seed [0, 0, 1, 1, 2, 3, 5, 6, (-1)] (by decide) h0 h1
  rw [e, Option.bind_some]
  exact ⟨_, a, s, rfl, a0, a1⟩
theorem lots_l1 (code : List Int) (hc : codeOk code) (d : Nat) : ∀ (at_ seed : Int) (xs : List Int), xs.length + d = 8 → 0 ≤ at_ → at_ + 2 * (d : Int) ≤ 90000 → ∃ (ys : List Int) (a s : Int), ys.length ≤ 8 ∧ (0 ≤ a ∧ a ≤ 90002) ∧ Ev (fun k => spec_l1Cur_lots.l1 k xs code at_ seed) (ys, a, s) := by
  induction d with
  | zero =>
    intro at_ seed xs hx a0 a1
    obtain ⟨y, b, t, e, y0, y1, u, v⟩ := pick_ok code hc at_ seed 2 a0 (by omega) (by omega)
    refine ⟨xs, b, t, by omega, ⟨by omega, by omega⟩, Ev.step (f := fun _ => some (xs, b, t)) (fun k => ?_) (Ev.now _)⟩
    rw [spec_l1Cur_lots.l1, e, Option.bind_some]
    dsimp only
    rw [wrap_id (6 + y) (by omega) (by omega), if_neg (by omega)]
  | succ d ih =>
    intro at_ seed xs hx a0 a1
    obtain ⟨y, b, t, e, y0, y1, u, v⟩ := pick_ok code hc at_ seed 2 a0 (by omega) (by omega)
    by_cases c : (xs.length : Int) < 6 + y
    · obtain ⟨ys, a, s, z1, z2, z3⟩ := ih b t (xs ++ [4]) (by rw [List.length_append, List.length_singleton]; omega) (by omega) (by omega)
      refine ⟨ys, a, s, z1, z2, Ev.step (fun k => ?_) z3⟩
      rw [spec_l1Cur_lots.l1, e, Option.bind_some]
      dsimp only
      rw [wrap_id (6 + y) (by omega) (by omega), if_pos c, if_pos (by omega)]
    · refine ⟨xs, b, t, by omega, ⟨by omega, by omega⟩, Ev.step (f := fun _ => some (xs, b, t)) (fun k => ?_) (Ev.now _)⟩
      rw [spec_l1Cur_lots.l1, e, Option.bind_some]
      dsimp only
      rw [wrap_id (6 + y) (by omega) (by omega), if_neg c]
theorem lots_l0 (code : List Int) (hc : codeOk code) (n : Nat) : ∀ (at_ seed : Int) (xs : List Int), xs.length + n ≤ 4 → 0 ≤ at_ → at_ + 2 * (n : Int) ≤ 80000 → ∃ (ys : List Int) (a s : Int), ys.length ≤ 8 ∧ (0 ≤ a ∧ a ≤ 90002) ∧ Ev (fun k => spec_l1Cur_lots.l0 k xs (n : Int) code at_ seed) (ys, a, s) := by
  induction n with
  | zero =>
    intro at_ seed xs hx a0 a1
    obtain ⟨y, b, t, e, y0, y1, u, v⟩ := pick_ok code hc at_ seed 32 a0 (by omega) (by omega)
    have hs : ∀ k, spec_l1Cur_lots.l0 (k + 1) xs ((0 : Nat) : Int) code at_ seed = if y = 0 then (spec_l1Cur_among.f code b t [0, 101]).bind fun bt526 => (if xs.length < 17592186044416 then some (xs ++ [bt526.1], bt526.2.1, bt526.2.2) else none) else if y = 1 then some ([], b, t) else if y = 2 then spec_l1Cur_lots.l1 k xs code b t else some (xs, b, t) := fun k => by
      rw [spec_l1Cur_lots.l0, if_neg (by omega), e, Option.bind_some]
    by_cases c0 : y = 0
    · obtain ⟨z, b2, t2, e2, _, u2, v2⟩ := among_ok code hc b t [0, 101] (by decide) (by omega) (by omega)
      refine ⟨xs ++ [z], b2, t2, by rw [List.length_append, List.length_singleton]; omega, ⟨by omega, by omega⟩, Ev.step (f := fun _ => some (xs ++ [z], b2, t2)) (fun k => ?_) (Ev.now _)⟩
      rw [hs, if_pos c0, e2, Option.bind_some, if_pos (by omega)]
    · by_cases c1 : y = 1
      · exact ⟨[], b, t, by simp, ⟨by omega, by omega⟩, Ev.step (f := fun _ => some ([], b, t)) (fun k => by rw [hs, if_neg c0, if_pos c1]) (Ev.now _)⟩
      · by_cases c2 : y = 2
        · obtain ⟨ys, a, s, z1, z2, z3⟩ := lots_l1 code hc (8 - xs.length) b t xs (by omega) (by omega) (by omega)
          exact ⟨ys, a, s, z1, z2, Ev.step (fun k => by rw [hs, if_neg c0, if_neg c1, if_pos c2]) z3⟩
        · exact ⟨xs, b, t, by omega, ⟨by omega, by omega⟩, Ev.step (f := fun _ => some (xs, b, t)) (fun k => by rw [hs, if_neg c0, if_neg c1, if_neg c2]) (Ev.now _)⟩
  | succ n ih =>
    intro at_ seed xs hx a0 a1
    obtain ⟨z, b, t, e, _, u, v⟩ := among_ok code hc at_ seed [1, 2, 3, 5, 8, 20, 100] (by decide) a0 (by omega)
    obtain ⟨ys, a, s, z1, z2, z3⟩ := ih b t (xs ++ [z]) (by rw [List.length_append, List.length_singleton]; omega) (by omega) (by omega)
    refine ⟨ys, a, s, z1, z2, Ev.step (fun k => ?_) z3⟩
    rw [spec_l1Cur_lots.l0, if_pos (by omega), e, Option.bind_some]
    dsimp only
    rw [if_pos (by omega), wrap_id (((n + 1 : Nat) : Int) - 1) (by omega) (by omega)]
    congr 1
    omega
theorem lots_ok (code : List Int) (hc : codeOk code) (at_ seed : Int) (a0 : 0 ≤ at_) (a1 : at_ ≤ 50000) : ∃ (ys : List Int) (a s : Int), ys.length ≤ 8 ∧ (0 ≤ a ∧ a ≤ 90002) ∧ Ev (fun k => spec_l1Cur_lots.f k code at_ seed) (ys, a, s) := by
  obtain ⟨y, b, t, e, y0, y1, u, v⟩ := pick_ok code hc at_ seed 4 a0 (by omega) (by omega)
  obtain ⟨n, rfl⟩ := Int.eq_ofNat_of_zero_le y0
  obtain ⟨ys, a, s, z1, z2, z3⟩ := lots_l0 code hc (n + 1) b t [] (by rw [List.length_nil]; omega) (by omega) (by omega)
  refine ⟨ys, a, s, z1, z2, ?_⟩
  unfold spec_l1Cur_lots.f
  simp only [e, Option.bind_some, wrap_id (1 + (n : Int)) (show -9223372036854775808 ≤ 1 + (n : Int) by omega) (show 1 + (n : Int) ≤ 9223372036854775807 by omega)]
  rw [show (1 + (n : Int)) = ((n + 1 : Nat) : Int) from by omega]
  exact z3
theorem dyed_ok (code : List Int) (hc : codeOk code) : ∃ (w h : Int) (l : List Int) (c : Int) (q : List Int) (a s : Int), l.length ≤ 100 ∧ q.length ≤ 8 ∧ (0 ≤ a ∧ a ≤ 90002) ∧ Ev (fun k => spec_l1Cur_dyed.f k code 0 0) (w, h, l, c, q, a, s) := by
  obtain ⟨w, h, l, a1, s1, hl, ha, hd⟩ := chart_ok code hc 0 0 (by omega) (by omega)
  obtain ⟨o, b1, t1, e1, u1, v1⟩ := one_ok code hc a1 s1 3 ha.1 (by omega) (by omega)
  cases o with
  | true =>
    obtain ⟨x, b2, t2, e2, m2, u2, v2⟩ := among_ok code hc b1 t1 [2, 3, 4] (by decide) (by omega) (by omega)
    obtain ⟨y, b3, t3, e3, m3, u3, v3⟩ := among_ok code hc b2 t2 [2, 3, 4] (by decide) (by omega) (by omega)
    have hx : 0 ≤ x ∧ x ≤ 9 := by simp only [List.mem_cons, List.not_mem_nil, or_false] at m2; omega
    have hy : 0 ≤ y ∧ y ≤ 9 := by simp only [List.mem_cons, List.not_mem_nil, or_false] at m3; omega
    obtain ⟨ys, b4, t4, p1, p2, p3, p4⟩ := plain_ok code hc x y b3 t3 hx hy (by omega) (by omega)
    obtain ⟨c, b5, t5, e5, u5, v5⟩ := color_ok code hc b4 t4 (by omega) (by omega)
    obtain ⟨q, a, s, r1, r2, r3⟩ := lots_ok code hc b5 t5 (by omega) (by omega)
    refine ⟨x, y, ys, c, q, a, s, by omega, r1, r2, ?_⟩
    unfold spec_l1Cur_dyed.f
    refine Ev.bind hd ?_
    simp only [e1, Option.bind_some, if_true, e2, e3]
    refine Ev.bind p4 ?_
    simp only [e5, Option.bind_some]
    exact Ev.bind r3 (Ev.now _)
  | false =>
    obtain ⟨c, b5, t5, e5, u5, v5⟩ := color_ok code hc b1 t1 (by omega) (by omega)
    obtain ⟨q, a, s, r1, r2, r3⟩ := lots_ok code hc b5 t5 (by omega) (by omega)
    refine ⟨w, h, l, c, q, a, s, by omega, r1, r2, ?_⟩
    unfold spec_l1Cur_dyed.f
    refine Ev.bind hd ?_
    simp only [e1, Option.bind_some, Bool.false_eq_true, if_false, e5]
    exact Ev.bind r3 (Ev.now _)
theorem drawnFirst (code : List Int) (hc : codeOk code) : ∃ (w h : Int) (l : List Int) (c : Int) (q : List Int), l.length ≤ 100 ∧ q.length ≤ 8 ∧ Ev (fun k => spec_DrawFirstAssignment.f k code) (w, h, l, c, q) := by
  obtain ⟨w, h, l, c, q, a, s, h1, h2, _, h3⟩ := dyed_ok code hc
  exact ⟨w, h, l, c, q, h1, h2, by unfold spec_DrawFirstAssignment.f; exact Ev.bind h3 (Ev.now _)⟩
theorem drawnGreat (code : List Int) (hc : codeOk code) : ∃ (w h : Int) (l : List Int), l.length ≤ 100 ∧ Ev (fun k => spec_DrawGreatestArea.f k code) (w, h, l) := by
  obtain ⟨w, h, l, a1, s1, hl, ha, hd⟩ := chart_ok code hc 0 0 (by omega) (by omega)
  have d1 : Ev (fun k => spec_DrawIsChart.f k code) (w, h, l) := by unfold spec_DrawIsChart.f; exact Ev.bind hd (Ev.now _)
  exact ⟨w, h, l, by omega, by unfold spec_DrawGreatestArea.f; exact Ev.bind d1 (Ev.now _)⟩
theorem isDraw_l0 (code : List Int) (hc : codeOk code) (w h : Int) (l : List Int) (c : Int) (q : List Int) (n : Nat) : ∀ (at_ seed : Int) (xs : List Int), xs.length + n ≤ 20 → 0 ≤ at_ → at_ + 4 * (n : Int) ≤ 200000 → ∃ ys : List Int, ys.length ≤ 20 ∧ Ev (fun k => spec_DrawIsAssignment.l0 k c q xs (n : Int) code at_ seed w h l) (w, h, l, c, q, ys) := by
  induction n with
  | zero =>
    intro at_ seed xs hx a0 a1
    exact ⟨xs, by omega, Ev.step (f := fun _ => some (w, h, l, c, q, xs)) (fun k => by rw [spec_DrawIsAssignment.l0, if_neg (by omega)]) (Ev.now _)⟩
  | succ n ih =>
    intro at_ seed xs hx a0 a1
    obtain ⟨x, b, t, e, x0, x1, u, v⟩ := pick_ok code hc at_ seed 3 a0 (by omega) (by omega)
    obtain ⟨y, b2, t2, e2, y0, y1, u2, v2⟩ := pick_ok code hc b t 9 (by omega) (by omega) (by omega)
    obtain ⟨ys, z1, z2⟩ := ih b2 t2 (xs ++ [wrap64 (x - (wrap64 (Int.tdiv y 8)))]) (by rw [List.length_append, List.length_singleton]; omega) (by omega) (by omega)
    refine ⟨ys, z1, Ev.step (fun k => ?_) z2⟩
    rw [spec_DrawIsAssignment.l0, if_pos (by omega), e, Option.bind_some]
    dsimp only
    rw [e2, Option.bind_some]
    dsimp only
    rw [if_pos (by omega), wrap_id (((n + 1 : Nat) : Int) - 1) (by omega) (by omega)]
    congr 1
    omega
theorem drawnIs (code : List Int) (hc : codeOk code) : ∃ (w h : Int) (l : List Int) (c : Int) (q A : List Int), l.length ≤ 100 ∧ q.length ≤ 8 ∧ Ev (fun k => spec_DrawIsAssignment.f k code) (w, h, l, c, q, A) := by
  obtain ⟨w, h, l, c, q, a, s, h1, h2, h3, h4⟩ := dyed_ok code hc
  obtain ⟨r, r1, r2, _⟩ := FirstAssignment_same w h l c q (by omega) (by omega)
  have last : ∀ (o : Bool) (b t : Int), 0 ≤ b → b ≤ 100000 → ∃ A : List Int, Ev (fun k => spec_DrawIsAssignment.j0 k c q r.1 o code b t w h l) (w, h, l, c, q, A) := fun o b t b0 b1 => by
    cases o with
    | true => exact ⟨r.1, Ev.step (f := fun _ => some (w, h, l, c, q, r.1)) (fun k => by rw [spec_DrawIsAssignment.j0, if_pos rfl]) (Ev.now _)⟩
    | false =>
      obtain ⟨y, b2, t2, e2, y0, y1, u2, v2⟩ := pick_ok code hc b t 5 b0 (by omega) (by omega)
      obtain ⟨n, rfl⟩ := Int.eq_ofNat_of_zero_le y0
      obtain ⟨ys, z1, z2⟩ := isDraw_l0 code hc w h l c q n b2 t2 [] (by rw [List.length_nil]; omega) (by omega) (by omega)
      exact ⟨ys, Ev.step (fun k => by rw [spec_DrawIsAssignment.j0, if_neg (by decide), e2, Option.bind_some]) z2⟩
  obtain ⟨o, b1, t1, e1, u1, v1⟩ := one_ok code hc a s 4 h3.1 (by omega) (by omega)
  cases ho : r.2 with
  | true =>
    obtain ⟨A, hA⟩ := last (!o) b1 t1 (by omega) (by omega)
    refine ⟨w, h, l, c, q, A, h1, h2, ?_⟩
    unfold spec_DrawIsAssignment.f
    refine Ev.bind h4 (Ev.bind r2 ?_)
    simp only [ho, if_true, e1, Option.bind_some]
    exact hA
  | false =>
    obtain ⟨A, hA⟩ := last false a s h3.1 (by omega)
    refine ⟨w, h, l, c, q, A, h1, h2, ?_⟩
    unfold spec_DrawIsAssignment.f
    refine Ev.bind h4 (Ev.bind r2 ?_)
    simp only [ho, Bool.false_eq_true, if_false]
    exact hA
theorem vInts_ev (l : List Int) (hl : l.length ≤ 1000) : Ev (fun k => laws_vInts.f k l l) true := by
  refine Ev.congr (f := fun k => laws_vInts.l0 k l l 0) (fun k => by unfold laws_vInts.f; rw [if_pos rfl]) ?_
  obtain ⟨r, hr, h⟩ := Ev.loopE (fun k i (_ : Unit) => laws_vInts.l0 k l l i) l.length (fun _ _ => True) (fun r => r = true)
    (fun s _ => ⟨true, rfl, Ev.step (f := fun _ => some true) (fun k => by rw [laws_vInts.l0, if_neg (by omega)]) (Ev.now true)⟩)
    (fun i s hi _ => ⟨(), trivial, fun r h => Ev.step (fun k => by rw [laws_vInts.l0, if_pos (by omega), if_pos (by omega), if_pos (by omega), if_pos rfl, wrap_id _ (by omega) (by omega)]) h⟩) () trivial
  subst hr
  exact h
theorem FnLots (l0 : List (Int)) (q_l0 : (l0.length ≤ maxLen ∧ ∀ q ∈ l0, (Lit.int .u8 q).wf = true)) : ∃ k, laws_FnLots.f k l0 = some true := by
  by_cases hb : (l0.length : Int) > 65536
  · refine ⟨0, ?_⟩
    unfold laws_FnLots.f laws_vBig.f
    rw [Option.bind_some, decide_eq_true hb, if_pos rfl]
  · have hc : codeOk l0 := codeOk_of l0 (by omega) q_l0.2
    have fin : Ev (fun k => laws_FnLots.f k l0) true := by
      have j4 : Ev (fun k => laws_FnLots.j4 k l0 false) true := by
        obtain ⟨w, h, t, h1, d1⟩ := drawnGreat l0 hc
        obtain ⟨r, s1, s2⟩ := great_same w h t (by omega)
        refine Ev.step (fun k => by rw [laws_FnLots.j4, if_neg (by decide)]) (Ev.bind d1 (Ev.bind s2 (Ev.bind s1 ?_)))
        simp only [if_true, beq_self_eq_true]
        exact Ev.now _
      have j3 : Ev (fun k => laws_FnLots.j3 k l0) true := by
        obtain ⟨w, h, t, c, q, A, h1, h2, d1⟩ := drawnIs l0 hc
        obtain ⟨r, s1, s2⟩ := IsAssignment_same w h t c q A (by omega) (by omega)
        refine Ev.step (fun k => by rw [laws_FnLots.j3]) (Ev.bind d1 (Ev.bind s2 (Ev.bind s1 ?_)))
        simp only [bne_self_eq_false, Bool.false_eq_true, if_false]
        exact j4
      obtain ⟨w, h, t, c, q, h1, h2, d1⟩ := drawnFirst l0 hc
      obtain ⟨r, v, r1, r2, r3, v2, v3, hv, hval⟩ := lots_val w h t c q (by omega) (by omega)
      have j1 : Ev (fun k => laws_FnLots.j1 k l0 c q r.1 r.2 v.1 false w h t) true := by
        cases ho : r.2 with
        | false => exact Ev.step (fun k => by rw [laws_FnLots.j1, if_neg (by decide), if_neg (by decide)]) j3
        | true =>
          obtain ⟨a1, a2, a3⟩ := hval ho
          refine Ev.step (fun k => by rw [laws_FnLots.j1, if_neg (by decide), if_pos rfl]) (Ev.bind a1 ?_)
          have key : ∀ d i x : Nat, i + d = r.1.length → x ≤ i → x + dif (r.1.take i) (r.1.drop i) = dif [] r.1 → Ev (fun k => laws_FnLots.l0 k l0 r.1 v.1 true true (x : Int) (i : Int)) true := by
            intro d
            induction d with
            | zero =>
              intro i x hi hx hd
              rw [List.drop_eq_nil_of_le (by omega), dif, Nat.add_zero] at hd
              refine Ev.step (fun k => ?_) j3
              rw [laws_FnLots.l0, if_neg (by omega), if_pos rfl, if_pos rfl, if_neg (by omega), if_neg (by omega)]
            | succ d ih =>
              intro i x hi hx hd
              have hlt : i < r.1.length := by omega
              have e0 : rd r.1 (i : Int) = r.1[i] := by
                show r.1.getD i 0 = _
                rw [List.getD_eq_getElem?_getD, List.getElem?_eq_getElem hlt]; rfl
              have e1 : ((i + 1 : Nat) : Int) = (i : Int) + 1 := by omega
              have g := vHas_ev (r.1.take i) r.1[i] (by rw [List.length_take]; omega)
              rw [List.drop_eq_getElem_cons hlt, dif, ← List.take_succ_eq_append_getElem hlt] at hd
              refine Ev.step (f := fun k => (laws_vHas.f k (r.1.take i) r.1[i]).bind _) (fun k => by rw [laws_FnLots.l0, if_pos (by omega), if_pos (by omega), if_pos (by omega), e0, Int.toNat_natCast]) (Ev.bind g ?_)
              by_cases c1 : r.1[i] ∈ r.1.take i
              · rw [if_pos c1] at hd
                have G := ih (i + 1) x (by omega) (by omega) (by omega)
                rw [e1] at G
                simp only [decide_eq_true c1, if_true, wrap_id ((i : Int) + 1) (show -9223372036854775808 ≤ (i : Int) + 1 by omega) (show (i : Int) + 1 ≤ 9223372036854775807 by omega)]
                exact G
              · rw [if_neg c1] at hd
                have G := ih (i + 1) (x + 1) (by omega) (by omega) (by omega)
                rw [e1, show ((x + 1 : Nat) : Int) = (x : Int) + 1 from by omega] at G
                simp only [decide_eq_false c1, Bool.false_eq_true, if_false, wrap_id ((i : Int) + 1) (show -9223372036854775808 ≤ (i : Int) + 1 by omega) (show (i : Int) + 1 ≤ 9223372036854775807 by omega), wrap_id ((x : Int) + 1) (show -9223372036854775808 ≤ (x : Int) + 1 by omega) (show (x : Int) + 1 ≤ 9223372036854775807 by omega)]
                exact G
          exact key r.1.length 0 0 (by omega) (by omega) (by rw [Nat.zero_add, List.take_zero, List.drop_zero])
      have j0 : Ev (fun k => laws_FnLots.j0 k l0 c q r.1 r.2 false w h t) true := by
        refine Ev.step (fun k => by rw [laws_FnLots.j0, if_neg (by decide)]) (Ev.bind v3 (Ev.bind v2 ?_))
        simp only [bne_self_eq_false, Bool.false_eq_true, if_false, if_true, hv]
        exact j1
      unfold laws_FnLots.f laws_vBig.f
      simp only [Option.bind_some, decide_eq_false hb, Bool.false_eq_true, if_false]
      refine Ev.bind d1 (Ev.bind r3 (Ev.bind r2 ?_))
      simp only [bne_self_eq_false, Bool.false_eq_true, if_false]
      refine Ev.bind (vInts_ev r.1 (by omega)) ?_
      simp only [Bool.not_true]
      exact j0
    obtain ⟨K, hK⟩ := fin
    exact ⟨K, hK K (Nat.le_refl _)⟩
end Go.Proofs.Ytaadbpibmlnncaa.Pure
