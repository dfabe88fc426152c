/- The plain law of FnExactMergePhotos: what the program's functions compute is what the reference's compute. No program and no memory in it. -/
import Derived.Test.YtcjalfgnnabghaaZ01Hx19
import Derived.Test.YtcjalfgnnabghaaZ01Lps
namespace Go.Proofs.Ytcjalfgnnabghaa.Pure
open Go.RowKit Go.Proofs.YtcjalfgnnabghaaW.PrintWords Go.Proofs.YtcjalfgnnabghaaW.PrintLast Go.Proofs.Ytcjalfgnnabghaa.H
set_option linter.unusedVariables false
set_option linter.unusedSimpArgs false
theorem l1In_eq (a b c : Int) : spec_l1In.f a b c = some (rng a b c) := spec_l1In.eq a b c
theorem in_eq (a b c : Int) : impl_in.f a b c = some (rng a b c) := impl_in.eq a b c
theorem ext_getD {α : Type} (z : α) (a b : List α) (hl : a.length = b.length) (h : ∀ j, j < a.length → a.getD j z = b.getD j z) : a = b := by
  apply List.ext_getElem hl
  intro j h1 h2
  have := h j h1
  rwa [List.getD_eq_getElem?_getD, List.getD_eq_getElem?_getD, List.getElem?_eq_getElem h1, List.getElem?_eq_getElem h2] at this
def okChart (w h : Int) (l : List Int) : Bool := (l.all fun x => rng x 0 5) && (rng w 1 8 && (rng h 1 8 && ((l.length : Int) == wrap64 (w * h))))
theorem okChart_iff (w h : Int) (l : List Int) (hk : okChart w h l = true) : (∀ i, i < l.length → 0 ≤ l.getD i 0 ∧ l.getD i 0 ≤ 5) ∧ (1 ≤ w ∧ w ≤ 8) ∧ (1 ≤ h ∧ h ≤ 8) ∧ (l.length : Int) = w * h ∧ l.length ≤ 64 := by
  unfold okChart at hk
  simp only [Bool.and_eq_true, rng_iff, beq_iff_eq] at hk
  obtain ⟨h1, h2, h3, h4⟩ := hk
  have p0 : 0 ≤ w * h := Int.mul_nonneg (by omega) (by omega)
  have p1 : w * h ≤ 8 * 8 := Int.mul_le_mul h2.2 h3.2 (by omega) (by omega)
  rw [wrap_id _ (by omega) (by omega)] at h4
  refine ⟨fun i hi => ?_, h2, h3, h4, by omega⟩
  have := (all_getD 0 l _).1 h1 i hi
  exact (rng_iff _ _ _).1 this
theorem l2Good_ev (w h : Int) (l : List Int) (hl : l.length ≤ 2000000) : Ev (fun k => spec_l2Good.f k w h l) (okChart w h l) := by
  unfold spec_l2Good.f
  have e : okChart w h l = ((List.range l.length).all (fun i => rng (l.getD i 0) 0 5) && (rng w 1 8 && (rng h 1 8 && ((l.length : Int) == wrap64 (w * h))))) := by
    unfold okChart
    congr 1
    rw [Bool.eq_iff_iff, all_getD 0, all_range]
  rw [e]
  refine Ev.scan (fun k i => spec_l2Good.l0 k i w h l) l.length _ _ (Ev.step (f := fun _ => some _) (fun k => ?_) (Ev.now _)) ?_ ?_
  · rw [spec_l2Good.l0, if_neg (by omega)]
    unfold spec_l2Side.f
    simp only [l1In_eq, Option.bind_some]
    cases rng w 1 8 <;> cases rng h 1 8 <;> rfl
  · intro i hi hg
    refine Ev.step (f := fun _ => some false) (fun k => ?_) (Ev.now _)
    rw [spec_l2Good.l0, if_pos (by omega), if_pos (by omega)]
    unfold spec_l2Color.f
    have e0 : rd l (i : Int) = l.getD i 0 := rfl
    rw [l1In_eq, e0, hg]
    rfl
  · intro i r hi hg hr
    refine Ev.step (fun k => ?_) hr
    rw [spec_l2Good.l0, if_pos (by omega), if_pos (by omega)]
    unfold spec_l2Color.f
    have e0 : rd l (i : Int) = l.getD i 0 := rfl
    rw [l1In_eq, e0, hg, wrap_id _ (by omega) (by omega)]
    rfl
theorem IsChart_eq (w h : Int) (l : List Int) : impl_IsChart.f w h l = some (okChart w h l) := by
  unfold impl_IsChart.f impl_isSide.f areAll_impl_isColor.f okChart
  simp only [in_eq, Option.bind_some]
  by_cases e : (l.length : Int) = wrap64 (w * h)
  · rw [if_pos e, beq_iff_eq.2 e]
    cases rng w 1 8 <;> cases rng h 1 8 <;> simp
  · rw [if_neg e, beq_eq_false_iff_ne.2 e]
    cases rng w 1 8 <;> cases rng h 1 8 <;> simp
theorem mk_cell (of : Int → Int → Option Int) (w h r k v : Int) (hv : of r k = some v) (hk : 0 ≤ k ∧ k < w) (hw : w ≤ 8) (xs : List Int) (hx : xs.length ≤ 1000) (H : Int) (res : Int × Int × List Int) (r0 : Int)
    (hn : Ev (fun q => impl_makeChart.l1 of q w r H r0 w (k + 1) w h (xs ++ [v])) res) : Ev (fun q => impl_makeChart.l1 of q w r H r0 w k w h xs) res := by
  exact Ev.step (fun q => by rw [impl_makeChart.l1, if_pos hk.2, hv, Option.bind_some, if_pos (by omega), wrap_id (k + 1) (by omega) (by omega)]) hn
def preV (V : Nat → Int) (m : Nat) : List Int := (List.range m).map V
theorem preV_succ (V : Nat → Int) (m : Nat) : preV V (m + 1) = preV V m ++ [V m] := by unfold preV; rw [List.range_succ, List.map_append]; rfl
theorem preV_len (V : Nat → Int) (m : Nat) : (preV V m).length = m := by unfold preV; rw [List.length_map, List.length_range]
theorem preV_getD (V : Nat → Int) (m j : Nat) (h : j < m) : (preV V m).getD j 0 = V j := by
  unfold preV
  rw [List.getD_eq_getElem?_getD, List.getElem?_map, List.getElem?_range h]
  rfl
theorem mkList_row (of : Int → Int → Option Int) (V : Nat → Int) (W H : Nat) (hW : W ≤ 8) (r : Nat) (hr : r < H) (hH : H ≤ 8) (hof : ∀ c : Nat, c < W → of (r : Int) (c : Int) = some (V (r * W + c))) (n : Nat) : ∀ j : Nat, j + n = W → ∀ res,
    Ev (fun q => impl_makeChart.l0 of q (W : Int) (H : Int) ((r : Int) + 1) (W : Int) (H : Int) (preV V (r * W + W))) res → Ev (fun q => impl_makeChart.l1 of q (W : Int) (r : Int) (H : Int) (r : Int) (W : Int) (j : Int) (W : Int) (H : Int) (preV V (r * W + j))) res := by
  have hm := Nat.mul_le_mul (show r ≤ 8 by omega) hW
  induction n with
  | zero =>
    intro j hj res h
    obtain rfl : j = W := by omega
    exact Ev.step (fun q => by rw [impl_makeChart.l1, if_neg (by omega), wrap_id ((r : Int) + 1) (by omega) (by omega)]) h
  | succ n ih =>
    intro j hj res h
    have e1 : ((j + 1 : Nat) : Int) = (j : Int) + 1 := by omega
    have h2 := ih (j + 1) (by omega) res h
    rw [e1, ← Nat.add_assoc, preV_succ] at h2
    exact mk_cell of (W : Int) (H : Int) (r : Int) (j : Int) _ (hof j (by omega)) ⟨by omega, by omega⟩ (by omega) _ (by rw [preV_len]; omega) (H : Int) res (r : Int) h2
theorem mkList (of : Int → Int → Option Int) (V : Nat → Int) (W H : Nat) (hW : W ≤ 8) (hH : H ≤ 8) (hof : ∀ r c : Nat, r < H → c < W → of (r : Int) (c : Int) = some (V (r * W + c))) : Ev (fun q => impl_makeChart.f of q (W : Int) (H : Int)) ((W : Int), (H : Int), preV V (H * W)) := by
  unfold impl_makeChart.f
  have key : ∀ n r : Nat, r + n = H → Ev (fun q => impl_makeChart.l0 of q (W : Int) (H : Int) (r : Int) (W : Int) (H : Int) (preV V (r * W))) ((W : Int), (H : Int), preV V (H * W)) := by
    intro n
    induction n with
    | zero =>
      intro r hr
      obtain rfl : r = H := by omega
      exact Ev.step (f := fun _ => some _) (fun q => by rw [impl_makeChart.l0, if_neg (by omega)]) (Ev.now _)
    | succ n ih =>
      intro r hr
      have e1 : ((r + 1 : Nat) : Int) = (r : Int) + 1 := by omega
      have h2 := ih (r + 1) (by omega)
      rw [e1, Nat.succ_mul] at h2
      have h3 := mkList_row of V W H hW r (by omega) hH (fun c hc => hof r c (by omega) hc) W 0 (by omega) _ h2
      exact Ev.step (fun q => by rw [impl_makeChart.l0, if_pos (by omega)]; rfl) h3
  have := key H 0 (by omega)
  rw [Nat.zero_mul] at this
  exact this
theorem at_idx (w h : Int) (l : List Int) (hk : okChart w h l = true) (r c : Int) (hr : 0 ≤ r ∧ r ≤ h - 1) (hc : 0 ≤ c ∧ c ≤ w - 1) : 0 ≤ r * w + c ∧ r * w + c < (l.length : Int) ∧ 0 ≤ r * w ∧ r * w ≤ 64 := by
  obtain ⟨_, hw, hh, hlen, h64⟩ := okChart_iff w h l hk
  have a : 0 ≤ r * w := Int.mul_nonneg hr.1 (by omega)
  have b : r * w ≤ (h - 1) * w := Int.mul_le_mul_of_nonneg_right hr.2 (by omega)
  rw [Int.sub_mul, Int.one_mul, Int.mul_comm h w] at b
  omega
theorem implAt_eq (w h : Int) (l : List Int) (hk : okChart w h l = true) (r c : Int) (hr : 0 ≤ r ∧ r ≤ h - 1) (hc : 0 ≤ c ∧ c ≤ w - 1) : impl_Chart_at.f w h l r c = some (rd l (r * w + c)) := by
  obtain ⟨h1, h2, h3, h4⟩ := at_idx w h l hk r c hr hc
  obtain ⟨_, hw, hh, hlen, h64⟩ := okChart_iff w h l hk
  unfold impl_Chart_at.f
  rw [wrap_id (r * w) (by omega) (by omega), wrap_id (r * w + c) (by omega) (by omega), if_pos h1, if_pos h2]
theorem own_eq (w h : Int) (l : List Int) (hl : l.length ≤ 2000000) : spec_l2Own.f w h l = some (w, h, l) := by
  unfold spec_l2Own.f spec_l1Own.f
  simp only [Option.bind_some, List.nil_append, List.length_nil]
  rw [if_pos (by omega)]
  rfl
def mergeV (l l1 l2 : List Int) (j : Nat) : Int := if l1.getD j 0 = l2.getD j 0 then l1.getD j 0 else l.getD j 0
theorem specMerge_loop (w h : Int) (l : List Int) (w1 h1 : Int) (l1 : List Int) (w2 h2 : Int) (l2 : List Int) (hl : l.length ≤ 2000000) (e1 : l1.length = l.length) (e2 : l2.length = l.length) : Ev (fun k => spec_MergePhotos.l0 k 0 w1 h1 l1 w2 h2 l2 w h l) (w, h, preV (mergeV l l1 l2) l.length, true) := by
  obtain ⟨r, hr, hh⟩ := Ev.loopE (fun k i (s : List Int) => spec_MergePhotos.l0 k i w1 h1 l1 w2 h2 l2 w h s) l.length (fun i s => s.length = l.length ∧ (∀ j, j < i → s.getD j 0 = mergeV l l1 l2 j) ∧ ∀ j, i ≤ j → s.getD j 0 = l.getD j 0) (fun r => r = (w, h, preV (mergeV l l1 l2) l.length, true))
    (fun s hs => by
      obtain ⟨s1, s2, _⟩ := hs
      have e : s = preV (mergeV l l1 l2) l.length := ext_getD 0 _ _ (by rw [preV_len, s1]) (fun j hj => by rw [preV_getD _ _ _ (by omega)]; exact s2 j (by omega))
      subst e
      exact ⟨_, rfl, Ev.step (f := fun _ => some _) (fun k => by rw [spec_MergePhotos.l0, if_neg (by rw [s1]; omega)]) (Ev.now _)⟩)
    (fun i s hi hs => by
      obtain ⟨s1, s2, s3⟩ := hs
      have r1 : rd l1 (i : Int) = l1.getD i 0 := rfl
      have r2 : rd l2 (i : Int) = l2.getD i 0 := rfl
      by_cases c : l1.getD i 0 = l2.getD i 0
      · refine ⟨s.set i (l1.getD i 0), ⟨by simp [s1], fun j hj => ?_, fun j hj => ?_⟩, fun r h => Ev.step (fun k => ?_) h⟩
        · rw [getD_set]
          by_cases e : i = j
          · subst e
            rw [if_pos ⟨rfl, by omega⟩]
            unfold mergeV
            rw [if_pos c]
          · rw [if_neg (fun h => e h.1)]
            exact s2 j (by omega)
        · rw [getD_set, if_neg (fun h => by omega)]
          exact s3 j (by omega)
        · rw [spec_MergePhotos.l0, if_pos (by omega), if_pos (by omega), if_pos (by omega), if_pos (by omega), r1, r2, if_pos c, Int.toNat_natCast, wrap_id ((i : Int) + 1) (by omega) (by omega)]
      · refine ⟨s, ⟨s1, fun j hj => ?_, fun j hj => s3 j (by omega)⟩, fun r h => Ev.step (fun k => ?_) h⟩
        · by_cases e : j = i
          · subst e
            unfold mergeV
            rw [if_neg c]
            exact s3 j (Nat.le_refl _)
          · exact s2 j (by omega)
        · rw [spec_MergePhotos.l0, if_pos (by omega), if_pos (by omega), if_pos (by omega), if_pos (by omega), r1, r2, if_neg c, wrap_id ((i : Int) + 1) (by omega) (by omega)]) l ⟨rfl, fun j hj => absurd hj (by omega), fun _ _ => rfl⟩
  subst hr
  exact hh
def okThree (w h : Int) (l : List Int) (w1 h1 : Int) (l1 : List Int) (w2 h2 : Int) (l2 : List Int) : Bool := okChart w h l && ((okChart w1 h1 l1 && (w1 == w && h1 == h)) && (okChart w2 h2 l2 && (w2 == w && h2 == h)))
theorem three_eq (w h : Int) (l : List Int) (w1 h1 : Int) (l1 : List Int) (w2 h2 : Int) (l2 : List Int) : impl_isSameSize.two w h l w1 h1 l1 w2 h2 l2 = some (okThree w h l w1 h1 l1 w2 h2 l2) := by
  unfold impl_isSameSize.two okThree
  simp only [IsChart_eq, Option.bind_some]
theorem size_ev (w h : Int) (l : List Int) (w1 h1 : Int) (l1 : List Int) (hl : l.length ≤ 2000000) (hl1 : l1.length ≤ 2000000) : Ev (fun k => spec_l13Size.f k w h l w1 h1 l1) (okChart w h l && (okChart w1 h1 l1 && (w1 == w && h1 == h))) := by
  unfold spec_l13Size.f
  refine Ev.bind (l2Good_ev w h l hl) ?_
  cases okChart w h l with
  | false => simp only [Bool.false_eq_true, if_false, Bool.false_and]; exact Ev.now _
  | true =>
    simp only [if_true, Bool.true_and]
    refine Ev.bind (l2Good_ev w1 h1 l1 hl1) ?_
    cases okChart w1 h1 l1 with
    | false => simp only [Bool.false_eq_true, if_false, Bool.false_and]; exact Ev.now _
    | true =>
      simp only [if_true, Bool.true_and]
      by_cases e : w = w1
      · simp only [if_pos e]
        have e3 : (w1 == w && h1 == h) = (h == h1) := by
          rw [Bool.eq_iff_iff]
          simp only [Bool.and_eq_true, beq_iff_eq]
          omega
        rw [e3]
        exact Ev.now _
      · simp only [if_neg e]
        have e3 : (w1 == w && h1 == h) = false := by
          rw [beq_eq_false_iff_ne.2 (fun h => e h.symm)]
          rfl
        rw [e3]
        exact Ev.now _
theorem MergePhotos_same (w h : Int) (l : List Int) (w1 h1 : Int) (l1 : List Int) (w2 h2 : Int) (l2 : List Int) (hl : l.length ≤ 2000000) (hl1 : l1.length ≤ 2000000) (hl2 : l2.length ≤ 2000000) :
    ∃ r : Int × Int × List Int × Bool, r.2.2.1.length ≤ 100 ∧ Ev (fun k => spec_MergePhotos.f k w h l w1 h1 l1 w2 h2 l2) r ∧ Ev (fun k => impl_MergePhotos.f k w h l w1 h1 l1 w2 h2 l2) r := by
  have no1 : Ev (fun k => spec_MergePhotos.j0 k true w h l w1 h1 l1 w2 h2 l2) (0, 0, [], false) := Ev.step (fun k => by rw [spec_MergePhotos.j0, if_pos rfl]) (Ev.now _)
  have S1 := size_ev w h l w1 h1 l1 hl hl1
  have S2 := size_ev w h l w2 h2 l2 hl hl2
  unfold spec_MergePhotos.f impl_MergePhotos.f
  simp only [three_eq, Option.bind_some]
  cases hk : okThree w h l w1 h1 l1 w2 h2 l2 with
  | false =>
    refine ⟨(0, 0, [], false), by simp, Ev.bind S1 ?_, by simp only [Bool.false_eq_true, if_false]; exact Ev.now _⟩
    unfold okThree at hk
    cases ha : (okChart w h l && (okChart w1 h1 l1 && (w1 == w && h1 == h))) with
    | false => simp only [Bool.false_eq_true, if_false]; exact no1
    | true =>
      simp only [if_true]
      refine Ev.bind S2 ?_
      rw [Bool.and_eq_true] at ha
      rw [ha.1, ha.2] at hk
      simp only [Bool.true_and] at hk
      rw [ha.1, hk]
      exact no1
  | true =>
    have hk0 := hk
    unfold okThree at hk
    simp only [Bool.and_eq_true, beq_iff_eq] at hk
    obtain ⟨k0, ⟨k1, rfl, rfl⟩, k2, rfl, rfl⟩ := hk
    obtain ⟨_, hw, hh, hlen, h64⟩ := okChart_iff _ _ l k0
    obtain ⟨_, _, _, hlen1, _⟩ := okChart_iff _ _ l1 k1
    obtain ⟨_, _, _, hlen2, _⟩ := okChart_iff _ _ l2 k2
    obtain ⟨W, rfl⟩ := Int.eq_ofNat_of_zero_le (show 0 ≤ w2 by omega)
    obtain ⟨H, rfl⟩ := Int.eq_ofNat_of_zero_le (show 0 ≤ h2 by omega)
    have hHW : l.length = H * W := by
      have : ((H * W : Nat) : Int) = (W : Int) * (H : Int) := by rw [Int.natCast_mul, Int.mul_comm]
      omega
    refine ⟨((W : Int), (H : Int), preV (mergeV l l1 l2) l.length, true), by dsimp only; rw [preV_len]; omega, Ev.bind S1 ?_, ?_⟩
    · simp only [k0, k1, k2, beq_self_eq_true, Bool.and_self, if_true]
      refine Ev.bind S2 ?_
      simp only [k0, k2, beq_self_eq_true, Bool.and_self, Bool.not_true]
      refine Ev.step (f := fun k => spec_MergePhotos.l0 k 0 (W : Int) (H : Int) l1 (W : Int) (H : Int) l2 (W : Int) (H : Int) l) (fun k => ?_) (specMerge_loop _ _ l _ _ l1 _ _ l2 hl (by omega) (by omega))
      rw [spec_MergePhotos.j0, if_neg (by decide), own_eq _ _ l hl, Option.bind_some]
    · simp only [if_true]
      have hm := mkList (ofMerge (W : Int) (H : Int) l (W : Int) (H : Int) l1 (W : Int) (H : Int) l2) (mergeV l l1 l2) W H (by omega) (by omega) (fun r c hr hc => by
        have e : ∀ x : List Int, rd x ((r : Int) * (W : Int) + (c : Int)) = x.getD (r * W + c) 0 := fun x => by
          have : ((r : Int) * (W : Int) + (c : Int)) = ((r * W + c : Nat) : Int) := by rw [Int.natCast_add, Int.natCast_mul]
          rw [this]
          rfl
        unfold ofMerge
        rw [implAt_eq _ _ l1 k1 (r : Int) (c : Int) ⟨by omega, by omega⟩ ⟨by omega, by omega⟩, implAt_eq _ _ l2 k2 (r : Int) (c : Int) ⟨by omega, by omega⟩ ⟨by omega, by omega⟩, implAt_eq _ _ l k0 (r : Int) (c : Int) ⟨by omega, by omega⟩ ⟨by omega, by omega⟩]
        simp only [Option.bind_some, e]
        unfold mergeV
        split <;> rfl)
      refine Ev.bind hm ?_
      simp only [and_self, if_true, hHW]
      exact Ev.now _
theorem toInts_ev (l : List Int) (hl : l.length ≤ 2000000) : ∃ t : List Int, t.length = l.length ∧ Ev (fun k => laws_toIntS.f k l) t := by
  obtain ⟨r, hr, h⟩ := Ev.loopE (fun k i (s : List Int) => laws_toIntS.l0 k l s i) l.length (fun _ s => s.length = l.length) (fun r => r.length = l.length)
    (fun s hs => ⟨s, hs, Ev.step (fun k => by rw [laws_toIntS.l0, if_neg (by omega)]) (Ev.now s)⟩)
    (fun i s hi hs => ⟨s.set i (rd l i), by simp [hs], fun r h => Ev.step (fun k => by
      rw [laws_toIntS.l0, if_pos (by omega), if_pos (by omega), if_pos (by omega), wrap_id _ (by omega) (by omega), Int.toNat_natCast]) h⟩) (List.replicate l.length 0) (by simp)
  refine ⟨r, hr, Ev.congr (fun k => ?_) h⟩
  unfold laws_toIntS.f
  rw [if_pos (by omega), if_pos (by omega), Int.toNat_natCast]
theorem toChart_ev (w h : Int) (l : List Int) (hl : l.length ≤ 2000000) : ∃ t : List Int, t.length = l.length ∧ Ev (fun k => laws_toChart.f k w h l) (w, h, t) := by
  obtain ⟨t, ht, hv⟩ := toInts_ev l hl
  exact ⟨t, ht, by unfold laws_toChart.f; exact Ev.bind hv (Ev.now _)⟩
theorem szChartN (w h : Int) (l : List Int) (n : Int) (hn0 : 0 ≤ n) (hn : n ≤ 1048576) (hm : l.length ≤ maxLen) : laws_szChart.f w h l n = some (if (l.length : Int) ≤ n then n - (l.length : Int) else -1) := by
  have hm' : l.length ≤ 9223372036854775807 := hm
  unfold laws_szChart.f laws_szIntS.f
  rw [wrap_id _ (by omega) (by omega)]
  by_cases h : (l.length : Int) ≤ n
  · rw [if_pos h, if_neg (by omega), Option.bind_some, if_neg (by omega)]
  · rw [if_neg h, if_pos (by omega)]
    rfl
theorem eqInts_ev (t : List Int) (ht : t.length ≤ 2000000) : Ev (fun k => laws_eqIntS.f k t t) true := by
  refine Ev.congr (f := fun k => laws_eqIntS.l0 k t t 0) (fun k => by unfold laws_eqIntS.f; rw [if_pos rfl]) ?_
  obtain ⟨r, hr, h⟩ := Ev.loopE (fun k i (_ : Unit) => laws_eqIntS.l0 k t t i) t.length (fun _ _ => True) (fun r => r = true)
    (fun s _ => ⟨true, rfl, Ev.step (fun k => by rw [laws_eqIntS.l0, if_neg (by omega)]) (Ev.now true)⟩)
    (fun i s hi _ => ⟨(), trivial, fun r h => Ev.step (fun k => by
      rw [laws_eqIntS.l0, if_pos (by omega), if_pos (by omega), if_pos (by omega), if_pos rfl, wrap_id _ (by omega) (by omega)]) h⟩) () trivial
  subst hr
  exact h
theorem held_ev (t : List Int) (ht : t.length ≤ 2000000) (h1 : ∀ j : Nat, j < t.length → t.getD j 0 = 1 + (j : Int)) : Ev (fun k => laws_heldIntS.f k t 1) (1 + (t.length : Int)) := by
  unfold laws_heldIntS.f
  obtain ⟨r, hr, h⟩ := Ev.loopE (fun k i (q : Int) => laws_heldIntS.l0 k t q i) t.length (fun i q => q = 1 + (i : Int)) (fun r => r = 1 + (t.length : Int))
    (fun s hs => ⟨s, hs, Ev.step (fun k => by rw [laws_heldIntS.l0, if_neg (by omega)]) (Ev.now s)⟩)
    (fun i s hi hs => ⟨s + 1, by omega, fun r h => Ev.step (fun k => by
      have hx : rd t (i : Int) = s := by rw [hs]; exact h1 i hi
      rw [laws_heldIntS.l0, if_pos (by omega), if_pos (by omega), if_pos hx, wrap_id _ (by omega) (by omega), wrap_id _ (by omega) (by omega)]) h⟩) 1 (by omega)
  subst hr
  exact h
theorem mark_ev (t : List Int) (ht : t.length ≤ 2000000) : ∃ t' : List Int, Ev (fun k => laws_markIntS.f k t 1) (1 + (t.length : Int), t') ∧ Ev (fun k => laws_heldIntS.f k t' 1) (1 + (t.length : Int)) := by
  unfold laws_markIntS.f
  obtain ⟨⟨m, t'⟩, ⟨hm, hl, hj⟩, h⟩ := Ev.loopE (fun k i (q : Int × List Int) => laws_markIntS.l0 k q.2 q.1 i) t.length
    (fun i q => q.1 = 1 + (i : Int) ∧ q.2.length = t.length ∧ ∀ j : Nat, j < i → q.2.getD j 0 = 1 + (j : Int)) (fun r => r.1 = 1 + (t.length : Int) ∧ r.2.length = t.length ∧ ∀ j : Nat, j < t.length → r.2.getD j 0 = 1 + (j : Int))
    (fun s hs => ⟨s, hs, Ev.step (fun k => by rw [laws_markIntS.l0, if_neg (by omega)]) (Ev.now s)⟩)
    (fun i s hi hs => ⟨(s.1 + 1, s.2.set i s.1), ⟨by have := hs.1; simp only; omega, by simp [hs.2.1], fun j hj => by
        have h2 := hs.2.1
        simp only [getD_set]
        by_cases e : i = j
        · subst e; rw [if_pos ⟨rfl, by omega⟩]; exact hs.1
        · rw [if_neg (fun h => e h.1)]; exact hs.2.2 j (by omega)⟩, fun r h => Ev.step (fun k => by
      have h1 := hs.1
      have h2 := hs.2.1
      rw [laws_markIntS.l0, if_pos (by omega), if_pos (by omega), wrap_id _ (by omega) (by omega), wrap_id _ (by omega) (by omega), Int.toNat_natCast]) h⟩) (1, t) ⟨by simp, rfl, fun j hj => absurd hj (by omega)⟩
  simp only at hm hl hj
  subst hm
  refine ⟨t', h, ?_⟩
  have := held_ev t' (by omega) (fun j hjj => hj j (by omega))
  rw [hl] at this
  exact this
theorem heldM_ev (t : List Int) (m0 : Int) (hm0 : 0 ≤ m0) (hm1 : m0 ≤ 8000000) (ht : t.length ≤ 2000000) (h1 : ∀ j : Nat, j < t.length → t.getD j 0 = m0 + (j : Int)) : Ev (fun k => laws_heldIntS.f k t m0) (m0 + (t.length : Int)) := by
  unfold laws_heldIntS.f
  obtain ⟨r, hr, h⟩ := Ev.loopE (fun k i (q : Int) => laws_heldIntS.l0 k t q i) t.length (fun i q => q = m0 + (i : Int)) (fun r => r = m0 + (t.length : Int))
    (fun s hs => ⟨s, hs, Ev.step (fun k => by rw [laws_heldIntS.l0, if_neg (by omega)]) (Ev.now s)⟩)
    (fun i s hi hs => ⟨s + 1, by omega, fun r h => Ev.step (fun k => by
      have hx : rd t (i : Int) = s := by rw [hs]; exact h1 i hi
      rw [laws_heldIntS.l0, if_pos (by omega), if_pos (by omega), if_pos hx, wrap_id _ (by omega) (by omega), wrap_id _ (by omega) (by omega)]) h⟩) m0 (by omega)
  subst hr
  exact h
theorem markM_ev (t : List Int) (m0 : Int) (hm0 : 0 ≤ m0) (hm1 : m0 ≤ 8000000) (ht : t.length ≤ 2000000) : ∃ t' : List Int, Ev (fun k => laws_markIntS.f k t m0) (m0 + (t.length : Int), t') ∧ Ev (fun k => laws_heldIntS.f k t' m0) (m0 + (t.length : Int)) := by
  unfold laws_markIntS.f
  obtain ⟨⟨m, t'⟩, ⟨hm, hl, hj⟩, h⟩ := Ev.loopE (fun k i (q : Int × List Int) => laws_markIntS.l0 k q.2 q.1 i) t.length
    (fun i q => q.1 = m0 + (i : Int) ∧ q.2.length = t.length ∧ ∀ j : Nat, j < i → q.2.getD j 0 = m0 + (j : Int)) (fun r => r.1 = m0 + (t.length : Int) ∧ r.2.length = t.length ∧ ∀ j : Nat, j < t.length → r.2.getD j 0 = m0 + (j : Int))
    (fun s hs => ⟨s, hs, Ev.step (fun k => by rw [laws_markIntS.l0, if_neg (by omega)]) (Ev.now s)⟩)
    (fun i s hi hs => ⟨(s.1 + 1, s.2.set i s.1), ⟨by have := hs.1; simp only; omega, by simp [hs.2.1], fun j hj => by
        have h2 := hs.2.1
        simp only [getD_set]
        by_cases e : i = j
        · subst e; rw [if_pos ⟨rfl, by omega⟩]; exact hs.1
        · rw [if_neg (fun h => e h.1)]; exact hs.2.2 j (by omega)⟩, fun r h => Ev.step (fun k => by
      have h1 := hs.1
      have h2 := hs.2.1
      rw [laws_markIntS.l0, if_pos (by omega), if_pos (by omega), wrap_id _ (by omega) (by omega), wrap_id _ (by omega) (by omega), Int.toNat_natCast]) h⟩) (m0, t) ⟨by simp, rfl, fun j hj => absurd hj (by omega)⟩
  simp only at hm hl hj
  subst hm
  refine ⟨t', h, ?_⟩
  have := heldM_ev t' m0 hm0 hm1 (by omega) (fun j hjj => hj j (by omega))
  rw [hl] at this
  exact this
theorem eqChart_ev (w h : Int) (t : List Int) (hl : t.length ≤ 2000000) : Ev (fun k => laws_eqChart.f k w h t w h t) true := by
  unfold laws_eqChart.f
  simp only [if_true]
  exact Ev.bind (eqInts_ev t hl) (by simp only [if_true]; exact Ev.now _)
theorem FnExactMergePhotos (a0_0 : Int) (a0_1 : Int) (l0_2 : List (Int)) (a1_0 : Int) (a1_1 : Int) (l1_2 : List (Int)) (a2_0 : Int) (a2_1 : Int) (l2_2 : List (Int)) (q_a0_0 : (Lit.int .i64 a0_0).wf = true) (q_a0_1 : (Lit.int .i64 a0_1).wf = true) (q_l0_2 : (l0_2.length ≤ maxLen ∧ ∀ q ∈ l0_2, (Lit.int .i64 q).wf = true)) (q_a1_0 : (Lit.int .i64 a1_0).wf = true) (q_a1_1 : (Lit.int .i64 a1_1).wf = true) (q_l1_2 : (l1_2.length ≤ maxLen ∧ ∀ q ∈ l1_2, (Lit.int .i64 q).wf = true)) (q_a2_0 : (Lit.int .i64 a2_0).wf = true) (q_a2_1 : (Lit.int .i64 a2_1).wf = true) (q_l2_2 : (l2_2.length ≤ maxLen ∧ ∀ q ∈ l2_2, (Lit.int .i64 q).wf = true)) : ∃ k, laws_FnExactMergePhotos.f k a0_0 a0_1 l0_2 a1_0 a1_1 l1_2 a2_0 a2_1 l2_2 = some true := by
  by_cases hl : (l0_2.length : Int) ≤ 1048576
  · by_cases hl2 : (l1_2.length : Int) ≤ 1048576 - (l0_2.length : Int)
    · by_cases hl3 : (l2_2.length : Int) ≤ 1048576 - (l0_2.length : Int) - (l1_2.length : Int)
      · obtain ⟨t, ht, K1, h1⟩ := toChart_ev a0_0 a0_1 l0_2 (by omega)
        obtain ⟨u, hu, K2, h2⟩ := toChart_ev a1_0 a1_1 l1_2 (by omega)
        obtain ⟨v, hv, K3, h3⟩ := toChart_ev a2_0 a2_1 l2_2 (by omega)
        obtain ⟨r, hr, ⟨K4, h4⟩, K5, h5⟩ := MergePhotos_same a0_0 a0_1 t a1_0 a1_1 u a2_0 a2_1 v (by omega) (by omega) (by omega)
        obtain ⟨K6, h6⟩ := eqChart_ev a0_0 a0_1 t (by omega)
        obtain ⟨K7, h7⟩ := eqChart_ev a1_0 a1_1 u (by omega)
        obtain ⟨K8, h8⟩ := eqChart_ev a2_0 a2_1 v (by omega)
        have mk : ∀ (w h : Int) (x : List Int) (m0 : Int), 0 ≤ m0 → m0 ≤ 8000000 → x.length ≤ 2000000 → ∃ x', Ev (fun k => laws_markChart.f k w h x m0) (m0 + (x.length : Int), x') := fun w h x m0 a b c => by
          obtain ⟨x', e, _⟩ := markM_ev x m0 a b c
          exact ⟨x', by unfold laws_markChart.f; exact Ev.bind e (Ev.now _)⟩
        obtain ⟨t', K9, h9⟩ := mk a0_0 a0_1 t 1 (by omega) (by omega) (by omega)
        obtain ⟨u', K10, h10⟩ := mk a1_0 a1_1 u (1 + (t.length : Int)) (by omega) (by omega) (by omega)
        obtain ⟨v', K11, h11⟩ := mk a2_0 a2_1 v (1 + (t.length : Int) + (u.length : Int)) (by omega) (by omega) (by omega)
        obtain ⟨K12, h12⟩ := eqChart_ev r.1 r.2.1 r.2.2.1 (by omega)
        obtain ⟨g', hg1, hg2⟩ := mark_ev r.2.2.1 (by omega)
        obtain ⟨K13, h13⟩ : Ev (fun k => laws_markChart.f k r.1 r.2.1 r.2.2.1 1) (1 + (r.2.2.1.length : Int), g') := by unfold laws_markChart.f; exact Ev.bind hg1 (Ev.now _)
        have n2 : ¬ 1 + (r.2.2.1.length : Int) < 0 := by omega
        obtain ⟨K14, h14⟩ : Ev (fun k => laws_heldChart.f k r.1 r.2.1 g' 1) (1 + (r.2.2.1.length : Int)) := by unfold laws_heldChart.f; exact Ev.bind hg2 (by simp only [if_neg n2]; exact Ev.now _)
        obtain ⟨N, hN⟩ : ∃ N, N = K1 + K2 + K3 + K4 + K5 + K6 + K7 + K8 + K9 + K10 + K11 + K12 + K13 + K14 := ⟨_, rfl⟩
        replace h1 := fun j => h1 (N + j) (by omega)
        replace h2 := fun j => h2 (N + j) (by omega)
        replace h3 := fun j => h3 (N + j) (by omega)
        replace h4 := fun j => h4 (N + j) (by omega)
        replace h5 := fun j => h5 (N + j) (by omega)
        replace h6 := fun j => h6 (N + j) (by omega)
        replace h7 := fun j => h7 (N + j) (by omega)
        replace h8 := fun j => h8 (N + j) (by omega)
        replace h9 := fun j => h9 (N + j) (by omega)
        replace h10 := fun j => h10 (N + j) (by omega)
        replace h11 := fun j => h11 (N + j) (by omega)
        replace h12 := fun j => h12 (N + j) (by omega)
        replace h13 := fun j => h13 (N + j) (by omega)
        replace h14 := fun j => h14 (N + j) (by omega)
        dsimp only at h1 h2 h3 h4 h5 h6 h7 h8 h9 h10 h11 h12 h13 h14
        refine ⟨N + 4, ?_⟩
        have n1 : ¬ 1 + (t.length : Int) + (u.length : Int) + (v.length : Int) < 0 := by omega
        unfold laws_FnExactMergePhotos.f
        rw [szChartN _ _ _ _ (by omega) (by omega) q_l0_2.1, if_pos hl, Option.bind_some, if_neg (by omega), szChartN _ _ _ _ (by omega) (by omega) q_l1_2.1, if_pos hl2, Option.bind_some, if_neg (by omega), szChartN _ _ _ _ (by omega) (by omega) q_l2_2.1, if_pos hl3, Option.bind_some, if_neg (by omega)]
        simp only [h1, h2, h3, h4, h5, h6, h7, h8, h9, h10, h11, h12, h13, h14, n1, n2, laws_FnExactMergePhotos.j0, laws_FnExactMergePhotos.j1, laws_FnExactMergePhotos.j2, Option.bind_some, if_true, if_false, bne_self_eq_false, Bool.false_eq_true]
      · refine ⟨0, ?_⟩
        unfold laws_FnExactMergePhotos.f
        rw [szChartN _ _ _ _ (by omega) (by omega) q_l0_2.1, if_pos hl, Option.bind_some, if_neg (by omega), szChartN _ _ _ _ (by omega) (by omega) q_l1_2.1, if_pos hl2, Option.bind_some, if_neg (by omega), szChartN _ _ _ _ (by omega) (by omega) q_l2_2.1, if_neg hl3]
        rfl
    · refine ⟨0, ?_⟩
      unfold laws_FnExactMergePhotos.f
      rw [szChartN _ _ _ _ (by omega) (by omega) q_l0_2.1, if_pos hl, Option.bind_some, if_neg (by omega), szChartN _ _ _ _ (by omega) (by omega) q_l1_2.1, if_neg hl2]
      rfl
  · refine ⟨0, ?_⟩
    unfold laws_FnExactMergePhotos.f
    rw [szChartN _ _ _ _ (by omega) (by omega) q_l0_2.1, if_neg hl]
    rfl
end Go.Proofs.Ytcjalfgnnabghaa.Pure
