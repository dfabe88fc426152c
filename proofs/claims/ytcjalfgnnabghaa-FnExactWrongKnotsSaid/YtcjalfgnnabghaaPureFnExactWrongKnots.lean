/- The plain law of FnExactWrongKnots: what the program's functions compute is what the reference's compute. No program and no memory in it. -/
import Derived.Test.YtcjalfgnnabghaaHx30
import Derived.Test.YtcjalfgnnabghaaLps
namespace Go.Proofs.Ytcjalfgnnabghaa.Pure
open Go.RowKit Go.Proofs.YtcjalfgnnabghaaW.PrintWords Go.Proofs.YtcjalfgnnabghaaW.PrintLast Go.Proofs.Ytcjalfgnnabghaa.H
set_option linter.unusedVariables false
set_option linter.unusedSimpArgs false
theorem Ev.foldK {σ ρ : Type} (g : Nat → Int → σ → Option ρ) (n : Nat) (f : Nat → σ → σ) (Inv : Nat → σ → Prop) (r : ρ)
    (hstep : ∀ (i : Nat) s, i < n → Inv i s → Inv (i + 1) (f i s) ∧ (Ev (fun k => g k ((i : Int) + 1) (f i s)) r → Ev (fun k => g k (i : Int) s) r))
    (s : σ) (h0 : Inv 0 s) (hend : Ev (fun k => g k (n : Int) (loopN f n s)) r) : Ev (fun k => g k 0 s) r := by
  have key : ∀ i, i ≤ n → Inv i (loopN f i s) ∧ (Ev (fun k => g k (i : Int) (loopN f i s)) r → Ev (fun k => g k 0 s) r) := by
    intro i
    induction i with
    | zero => exact fun _ => ⟨h0, fun h => h⟩
    | succ i ih =>
      intro hi
      obtain ⟨h1, h2⟩ := ih (by omega)
      obtain ⟨h3, h4⟩ := hstep i _ (by omega) h1
      refine ⟨h3, fun h => h2 (h4 ?_)⟩
      have e : ((i + 1 : Nat) : Int) = (i : Int) + 1 := by omega
      rw [e] at h
      exact h
  exact (key n (Nat.le_refl _)).2 hend
theorem loopN_inv {σ : Type} (f : Nat → σ → σ) (Inv : Nat → σ → Prop) (n : Nat) (hstep : ∀ i s, i < n → Inv i s → Inv (i + 1) (f i s)) (s : σ) (h0 : Inv 0 s) : Inv n (loopN f n s) := by
  have key : ∀ i, i ≤ n → Inv i (loopN f i s) := by
    intro i
    induction i with
    | zero => exact fun _ => h0
    | succ i ih => exact fun hi => hstep i _ (by omega) (ih (by omega))
  exact key n (Nat.le_refl _)
theorem l1In_eq (a b c : Int) : spec_l1In.f a b c = some (rng a b c) := spec_l1In.eq a b c
theorem in_eq (a b c : Int) : impl_in.f a b c = some (rng a b c) := impl_in.eq a b c
theorem ext_getD {α : Type} (z : α) (a b : List α) (hl : a.length = b.length) (h : ∀ j, j < a.length → a.getD j z = b.getD j z) : a = b := by
  apply List.ext_getElem hl
  intro j h1 h2
  have := h j h1
  rwa [List.getD_eq_getElem?_getD, List.getD_eq_getElem?_getD, List.getElem?_eq_getElem h1, List.getElem?_eq_getElem h2] at this
theorem take_succ_getD {α : Type} (z : α) (a : List α) (i : Nat) (h : i < a.length) : a.take (i + 1) = a.take i ++ [a.getD i z] := by
  rw [List.take_succ_eq_append_getElem h, List.getD_eq_getElem?_getD, List.getElem?_eq_getElem h]
  rfl
theorem getD_map' {α β : Type} (f : α → β) (z : α) (y : β) (a : List α) (i : Nat) (h : i < a.length) : (a.map f).getD i y = f (a.getD i z) := by
  rw [List.getD_eq_getElem?_getD, List.getElem?_map, List.getD_eq_getElem?_getD, List.getElem?_eq_getElem h]
  rfl
theorem set_mid {α : Type} (f : α → α) (z : α) (a : List α) (i : Nat) (h : i < a.length) : ((a.take i).map f ++ a.drop i).set i (f (a.getD i z)) = (a.take (i + 1)).map f ++ a.drop (i + 1) := by
  have e : a.drop i = a.getD i z :: a.drop (i + 1) := by
    rw [List.drop_eq_getElem_cons h, List.getD_eq_getElem?_getD, List.getElem?_eq_getElem h]
    rfl
  rw [e, take_succ_getD z a i h, List.map_append, List.append_assoc]
  have hl : ((a.take i).map f).length = i := by rw [List.length_map, List.length_take]; omega
  rw [List.set_append_right _ _ (by omega), hl, Nat.sub_self]
  rfl
theorem mid_getD {α : Type} (f : α → α) (z : α) (a : List α) (i : Nat) (h : i < a.length) : ((a.take i).map f ++ a.drop i).getD i z = a.getD i z := by
  have hl : ((a.take i).map f).length = i := by rw [List.length_map, List.length_take]; omega
  rw [List.getD_eq_getElem?_getD, List.getElem?_append_right (by omega), hl, Nat.sub_self, List.getElem?_drop, Nat.add_zero, List.getD_eq_getElem?_getD]
theorem mid_length {α : Type} (f : α → α) (a : List α) (i : Nat) : ((a.take i).map f ++ a.drop i).length = a.length := by
  rw [List.length_append, List.length_map, List.length_take, List.length_drop]; omega
def okChart (w h : Int) (l : List Int) : Bool := (l.all fun x => rng x 0 5) && (rng w 1 8 && (rng h 1 8 && ((l.length : Int) == wrap64 (w * h))))
theorem okChart_iff (w h : Int) (l : List Int) (hk : okChart w h l = true) : (∀ i, i < l.length → 0 ≤ l.getD i 0 ∧ l.getD i 0 ≤ 5) ∧ (1 ≤ w ∧ w ≤ 8) ∧ (1 ≤ h ∧ h ≤ 8) ∧ (l.length : Int) = w * h ∧ l.length ≤ 64 := by
  unfold okChart at hk
  simp only [Bool.and_eq_true, rng_iff, beq_iff_eq] at hk
  obtain ⟨h1, h2, h3, h4⟩ := hk
  have p0 : 0 ≤ w * h := Int.mul_nonneg (by omega) (by omega)
  have p1 : w * h ≤ 8 * 8 := Int.mul_le_mul h2.2 h3.2 (by omega) (by omega)
  rw [wrap_id _ (by omega) (by omega)] at h4
  refine ⟨fun i hi => ?_, h2, h3, h4, by omega⟩
  have := (all_getD 0 l _).1 h1 i hi
  exact (rng_iff _ _ _).1 this
theorem l2Good_ev (w h : Int) (l : List Int) (hl : l.length ≤ 2000000) : Ev (fun k => spec_l2Good.f k w h l) (okChart w h l) := by
  unfold spec_l2Good.f
  have e : okChart w h l = ((List.range l.length).all (fun i => rng (l.getD i 0) 0 5) && (rng w 1 8 && (rng h 1 8 && ((l.length : Int) == wrap64 (w * h))))) := by
    unfold okChart
    congr 1
    rw [Bool.eq_iff_iff, all_getD 0, all_range]
  rw [e]
  refine Ev.scan (fun k i => spec_l2Good.l0 k i w h l) l.length _ _ (Ev.step (f := fun _ => some _) (fun k => ?_) (Ev.now _)) ?_ ?_
  · rw [spec_l2Good.l0, if_neg (by omega)]
    unfold spec_l2Side.f
    simp only [l1In_eq, Option.bind_some]
    cases rng w 1 8 <;> cases rng h 1 8 <;> rfl
  · intro i hi hg
    refine Ev.step (f := fun _ => some false) (fun k => ?_) (Ev.now _)
    rw [spec_l2Good.l0, if_pos (by omega), if_pos (by omega)]
    unfold spec_l2Color.f
    have e0 : rd l (i : Int) = l.getD i 0 := rfl
    rw [l1In_eq, e0, hg]
    rfl
  · intro i r hi hg hr
    refine Ev.step (fun k => ?_) hr
    rw [spec_l2Good.l0, if_pos (by omega), if_pos (by omega)]
    unfold spec_l2Color.f
    have e0 : rd l (i : Int) = l.getD i 0 := rfl
    rw [l1In_eq, e0, hg, wrap_id _ (by omega) (by omega)]
    rfl
theorem IsChart_eq (w h : Int) (l : List Int) : impl_IsChart.f w h l = some (okChart w h l) := by
  unfold impl_IsChart.f impl_isSide.f areAll_impl_isColor.f okChart
  simp only [in_eq, Option.bind_some]
  by_cases e : (l.length : Int) = wrap64 (w * h)
  · rw [if_pos e, beq_iff_eq.2 e]
    cases rng w 1 8 <;> cases rng h 1 8 <;> simp
  · rw [if_neg e, beq_eq_false_iff_ne.2 e]
    cases rng w 1 8 <;> cases rng h 1 8 <;> simp
theorem szChart1 (w h : Int) (l : List Int) (hk : ¬ (l.length : Int) ≤ 1048576) (hm : l.length ≤ maxLen) : laws_szChart.f w h l 1048576 = some (-1) := by
  have hm' : l.length ≤ 9223372036854775807 := hm
  unfold laws_szChart.f laws_szIntS.f
  rw [wrap_id _ (by omega) (by omega), if_pos (by omega)]
  rfl
theorem szChart2 (w h : Int) (l : List Int) (hk : (l.length : Int) ≤ 1048576) : laws_szChart.f w h l 1048576 = some (1048576 - (l.length : Int)) := by
  unfold laws_szChart.f laws_szIntS.f
  rw [wrap_id _ (by omega) (by omega), if_neg (by omega), Option.bind_some, if_neg (by omega)]
theorem toInts_ev (l : List Int) (hl : l.length ≤ 2000000) : ∃ t : List Int, t.length = l.length ∧ Ev (fun k => laws_toIntS.f k l) t := by
  obtain ⟨r, hr, h⟩ := Ev.loopE (fun k i (s : List Int) => laws_toIntS.l0 k l s i) l.length (fun _ s => s.length = l.length) (fun r => r.length = l.length)
    (fun s hs => ⟨s, hs, Ev.step (fun k => by rw [laws_toIntS.l0, if_neg (by omega)]) (Ev.now s)⟩)
    (fun i s hi hs => ⟨s.set i (rd l i), by simp [hs], fun r h => Ev.step (fun k => by
      rw [laws_toIntS.l0, if_pos (by omega), if_pos (by omega), if_pos (by omega), wrap_id _ (by omega) (by omega), Int.toNat_natCast]) h⟩) (List.replicate l.length 0) (by simp)
  refine ⟨r, hr, Ev.congr (fun k => ?_) h⟩
  unfold laws_toIntS.f
  rw [if_pos (by omega), if_pos (by omega), Int.toNat_natCast]
theorem toChart_ev (w h : Int) (l : List Int) (hl : l.length ≤ 2000000) : ∃ t : List Int, t.length = l.length ∧ Ev (fun k => laws_toChart.f k w h l) (w, h, t) := by
  obtain ⟨t, ht, hv⟩ := toInts_ev l hl
  exact ⟨t, ht, by unfold laws_toChart.f; exact Ev.bind hv (Ev.now _)⟩
theorem hasPlace_eq (w h : Int) (l : List Int) (hk : okChart w h l = true) (r c : Int) : impl_Chart_hasPlace.f w h l r c = some (rng r 0 (h - 1) && rng c 0 (w - 1)) := by
  obtain ⟨_, hw, hh, hlen, h64⟩ := okChart_iff w h l hk
  unfold impl_Chart_hasPlace.f
  simp only [in_eq, Option.bind_some]
  rw [wrap_id (h - 1) (by omega) (by omega), wrap_id (w - 1) (by omega) (by omega)]
  cases rng r 0 (h - 1) <;> rfl
abbrev SP := S79
theorem at_idx (w h : Int) (l : List Int) (hk : okChart w h l = true) (r c : Int) (hr : 0 ≤ r ∧ r ≤ h - 1) (hc : 0 ≤ c ∧ c ≤ w - 1) : 0 ≤ r * w + c ∧ r * w + c < (l.length : Int) ∧ 0 ≤ r * w ∧ r * w ≤ 64 := by
  obtain ⟨_, hw, hh, hlen, h64⟩ := okChart_iff w h l hk
  have a : 0 ≤ r * w := Int.mul_nonneg hr.1 (by omega)
  have b : r * w ≤ (h - 1) * w := Int.mul_le_mul_of_nonneg_right hr.2 (by omega)
  rw [Int.sub_mul, Int.one_mul, Int.mul_comm h w] at b
  omega
theorem specAt_eq (w h : Int) (l : List Int) (hk : okChart w h l = true) (r c : Int) (hr : 0 ≤ r ∧ r ≤ h - 1) (hc : 0 ≤ c ∧ c ≤ w - 1) : spec_l2At.f w h l r c = some (rd l (r * w + c)) := by
  obtain ⟨h1, h2, h3, h4⟩ := at_idx w h l hk r c hr hc
  obtain ⟨_, hw, hh, hlen, h64⟩ := okChart_iff w h l hk
  unfold spec_l2At.f
  rw [wrap_id (r * w) (by omega) (by omega), wrap_id (r * w + c) (by omega) (by omega), if_pos h1, if_pos h2]
theorem implAt_eq (w h : Int) (l : List Int) (hk : okChart w h l = true) (r c : Int) (hr : 0 ≤ r ∧ r ≤ h - 1) (hc : 0 ≤ c ∧ c ≤ w - 1) : impl_Chart_at.f w h l r c = some (rd l (r * w + c)) := by
  obtain ⟨h1, h2, h3, h4⟩ := at_idx w h l hk r c hr hc
  obtain ⟨_, hw, hh, hlen, h64⟩ := okChart_iff w h l hk
  unfold impl_Chart_at.f
  rw [wrap_id (r * w) (by omega) (by omega), wrap_id (r * w + c) (by omega) (by omega), if_pos h1, if_pos h2]
theorem within_ev (w h : Int) (l : List Int) (hk : okChart w h l = true) (r c : Int) : Ev (fun k => spec_l2Within.f k w h l r c) (rng r 0 (h - 1) && rng c 0 (w - 1)) := by
  obtain ⟨_, hw, hh, hlen, h64⟩ := okChart_iff w h l hk
  unfold spec_l2Within.f
  refine Ev.bind (l2Good_ev w h l (by omega)) ?_
  simp only [hk, if_true, l1In_eq, Option.bind_some]
  rw [wrap_id (h - 1) (by omega) (by omega), wrap_id (w - 1) (by omega) (by omega)]
  cases rng r 0 (h - 1) <;> exact Ev.now _
def cellF (w : Int) (l : List Int) (w2 h2 : Int) (l2 : List Int) (dr dc : Int) (r c : Nat) (s : List SP × Int) : List SP × Int :=
  if (rng ((r : Int) + dr) 0 (h2 - 1) && rng ((c : Int) + dc) 0 (w2 - 1)) = true then (if rd l ((r : Int) * w + (c : Int)) = rd l2 (((r : Int) + dr) * w2 + ((c : Int) + dc)) then (s.1, s.2 + 1) else (s.1 ++ [⟨(r : Int), (c : Int)⟩], s.2 + 1)) else s
def rowF (w : Int) (l : List Int) (w2 h2 : Int) (l2 : List Int) (dr dc : Int) (r : Nat) (s : List SP × Int) : List SP × Int := loopN (cellF w l w2 h2 l2 dr dc r) w.toNat s
def wrongF (w h : Int) (l : List Int) (w2 h2 : Int) (l2 : List Int) (dr dc : Int) : List SP × Int := loopN (rowF w l w2 h2 l2 dr dc) h.toNat ([], 0)
def okW (h : Int) (b : Nat) (s : List SP × Int) : Prop := s.1.length ≤ b ∧ 0 ≤ s.2 ∧ s.2 ≤ (b : Int) ∧ ∀ x ∈ s.1, 0 ≤ x.f0 ∧ x.f0 < h
theorem cellF_ok (w h : Int) (l : List Int) (w2 h2 : Int) (l2 : List Int) (dr dc : Int) (r c b : Nat) (hr : (r : Int) < h) (s : List SP × Int) (hs : okW h b s) : okW h (b + 1) (cellF w l w2 h2 l2 dr dc r c s) := by
  obtain ⟨h1, h3, h4, h5⟩ := hs
  unfold cellF
  split
  · split
    · exact ⟨by dsimp only; omega, by dsimp only; omega, by dsimp only; omega, h5⟩
    · refine ⟨by simp; omega, by dsimp only; omega, by dsimp only; omega, fun x hx => ?_⟩
      rcases List.mem_append.1 hx with hx | hx
      · exact h5 x hx
      · rw [List.mem_singleton.1 hx]
        exact ⟨Int.natCast_nonneg _, hr⟩
  · exact ⟨by omega, h3, by omega, h5⟩
theorem rowF_ok (w h : Int) (l : List Int) (w2 h2 : Int) (l2 : List Int) (dr dc : Int) (r b : Nat) (hr : (r : Int) < h) (s : List SP × Int) (hs : okW h b s) : okW h (b + w.toNat) (rowF w l w2 h2 l2 dr dc r s) :=
  loopN_inv _ (fun i s => okW h (b + i) s) w.toNat (fun i s _ hs => cellF_ok w h l w2 h2 l2 dr dc r i (b + i) hr s hs) s hs
theorem wrongF_ok (w h : Int) (l : List Int) (w2 h2 : Int) (l2 : List Int) (dr dc : Int) : okW h (h.toNat * w.toNat) (wrongF w h l w2 h2 l2 dr dc) := by
  have := loopN_inv (rowF w l w2 h2 l2 dr dc) (fun i s => okW h (i * w.toNat) s) h.toNat (fun i s hi hs => by
    rw [Nat.succ_mul]
    exact rowF_ok w h l w2 h2 l2 dr dc i _ (by omega) s hs) ([], 0) ⟨by simp, by simp, by simp, fun x hx => by cases hx⟩
  exact this
theorem specWrong_row (w h : Int) (l : List Int) (w2 h2 : Int) (l2 : List Int) (dr dc : Int) (hk : okChart w h l = true) (hk2 : okChart w2 h2 l2 = true) (hdr : -2 ≤ dr ∧ dr ≤ 2) (hdc : -2 ≤ dc ∧ dc ≤ 2) (r : Nat) (hr : (r : Int) < h) (b : Nat) (hb : b ≤ 100) (s : List SP × Int) (hs : okW h b s) (v : List SP × Int)
    (hv : Ev (fun k => spec_l13Wrong.l0 k dr dc (rowF w l w2 h2 l2 dr dc r s).1 (rowF w l w2 h2 l2 dr dc r s).2 ((r : Int) + 1) w h l w2 h2 l2) v) : Ev (fun k => spec_l13Wrong.l1 k dr dc s.1 s.2 (r : Int) 0 w h l w2 h2 l2) v := by
  obtain ⟨_, hw, hh, hlen, h64⟩ := okChart_iff w h l hk
  refine Ev.foldK (fun k i (s : List SP × Int) => spec_l13Wrong.l1 k dr dc s.1 s.2 (r : Int) i w h l w2 h2 l2) w.toNat (cellF w l w2 h2 l2 dr dc r) (fun i s => okW h (b + i) s) v (fun c s hc hs => ⟨cellF_ok w h l w2 h2 l2 dr dc r c (b + c) hr s hs, fun h1 => ?_⟩) s hs ?_
  · obtain ⟨q1, q3, q4, _⟩ := hs
    refine Ev.step (f := fun k => (spec_l2Within.f k w2 h2 l2 ((r : Int) + dr) ((c : Int) + dc)).bind _) (fun k => by rw [spec_l13Wrong.l1, if_pos (by omega), wrap_id ((r : Int) + dr) (by omega) (by omega), wrap_id ((c : Int) + dc) (by omega) (by omega)]) ?_
    refine Ev.bind (within_ev w2 h2 l2 hk2 _ _) ?_
    unfold cellF at h1
    by_cases hin : (rng ((r : Int) + dr) 0 (h2 - 1) && rng ((c : Int) + dc) 0 (w2 - 1)) = true
    · have hin2 := hin
      rw [Bool.and_eq_true, rng_iff, rng_iff] at hin2
      rw [if_pos hin] at h1
      simp only [hin, if_true]
      rw [specAt_eq w h l hk (r : Int) (c : Int) (by omega) (by omega), specAt_eq w2 h2 l2 hk2 _ _ hin2.1 hin2.2]
      simp only [Option.bind_some]
      rw [wrap_id (s.2 + 1) (by omega) (by omega), wrap_id ((c : Int) + 1) (by omega) (by omega)]
      by_cases he : rd l ((r : Int) * w + (c : Int)) = rd l2 (((r : Int) + dr) * w2 + ((c : Int) + dc))
      · rw [if_pos he] at h1
        simp only [if_pos he]
        exact h1
      · rw [if_neg he] at h1
        simp only [if_neg he, if_pos (show s.1.length < 8796093022208 by omega)]
        exact h1
    · rw [if_neg hin] at h1
      simp only [if_neg hin]
      rw [wrap_id ((c : Int) + 1) (by omega) (by omega)]
      exact h1
  · refine Ev.step (fun k => ?_) hv
    rw [spec_l13Wrong.l1, if_neg (by omega), wrap_id _ (by omega) (by omega)]
    rfl
theorem specWrong_ev (w h : Int) (l : List Int) (w2 h2 : Int) (l2 : List Int) (dr dc : Int) (hk : okChart w h l = true) (hk2 : okChart w2 h2 l2 = true) (hdr : -2 ≤ dr ∧ dr ≤ 2) (hdc : -2 ≤ dc ∧ dc ≤ 2) : Ev (fun k => spec_l13Wrong.f k w h l w2 h2 l2 dr dc) (wrongF w h l w2 h2 l2 dr dc) := by
  obtain ⟨_, hw, hh, hlen, h64⟩ := okChart_iff w h l hk
  unfold spec_l13Wrong.f
  refine Ev.foldK (fun k i (s : List SP × Int) => spec_l13Wrong.l0 k dr dc s.1 s.2 i w h l w2 h2 l2) h.toNat (rowF w l w2 h2 l2 dr dc) (fun i s => okW h (i * w.toNat) s) _ (fun r s hr hs => ⟨?_, fun h1 => ?_⟩) ([], 0) ⟨by simp, by simp, by simp, fun x hx => by cases hx⟩ ?_
  · rw [Nat.succ_mul]
    exact rowF_ok w h l w2 h2 l2 dr dc r _ (by omega) s hs
  · refine Ev.step (fun k => by rw [spec_l13Wrong.l0, if_pos (by omega)]) (specWrong_row w h l w2 h2 l2 dr dc hk hk2 hdr hdc r (by omega) (r * w.toNat) ?_ s hs _ h1)
    have := Nat.mul_le_mul (show r ≤ 8 by omega) (show w.toNat ≤ 8 by omega)
    omega
  · refine Ev.step (f := fun _ => some (wrongF w h l w2 h2 l2 dr dc)) (fun k => ?_) (Ev.now _)
    rw [spec_l13Wrong.l0, if_neg (by omega)]
    rfl
theorem implWrong_row (w h : Int) (l : List Int) (w2 h2 : Int) (l2 : List Int) (dr dc : Int) (hk : okChart w h l = true) (hk2 : okChart w2 h2 l2 = true) (hdr : -2 ≤ dr ∧ dr ≤ 2) (hdc : -2 ≤ dc ∧ dc ≤ 2) (r : Nat) (hr : (r : Int) < h) (b : Nat) (hb : b ≤ 100) (s : List SP × Int) (hs : okW h b s) (v : List SP × Int)
    (hv : Ev (fun k => impl_wrong.l0 k dr dc (rowF w l w2 h2 l2 dr dc r s).1 (rowF w l w2 h2 l2 dr dc r s).2 h ((r : Int) + 1) w h l w2 h2 l2) v) : Ev (fun k => impl_wrong.l1 k dr dc s.1 s.2 (r : Int) h (r : Int) w 0 w h l w2 h2 l2) v := by
  obtain ⟨_, hw, hh, hlen, h64⟩ := okChart_iff w h l hk
  refine Ev.foldK (fun k i (s : List SP × Int) => impl_wrong.l1 k dr dc s.1 s.2 (r : Int) h (r : Int) w i w h l w2 h2 l2) w.toNat (cellF w l w2 h2 l2 dr dc r) (fun i s => okW h (b + i) s) v (fun c s hc hs => ⟨cellF_ok w h l w2 h2 l2 dr dc r c (b + c) hr s hs, fun h1 => ?_⟩) s hs ?_
  · obtain ⟨q1, q3, q4, _⟩ := hs
    refine Ev.step (f := fun k => impl_wrong.l1 k dr dc (cellF w l w2 h2 l2 dr dc r c s).1 (cellF w l w2 h2 l2 dr dc r c s).2 (r : Int) h (r : Int) w ((c : Int) + 1) w h l w2 h2 l2) (fun k => ?_) h1
    rw [impl_wrong.l1, if_pos (by omega), wrap_id ((r : Int) + dr) (by omega) (by omega), wrap_id ((c : Int) + dc) (by omega) (by omega), hasPlace_eq w2 h2 l2 hk2, Option.bind_some]
    unfold cellF
    by_cases hin : (rng ((r : Int) + dr) 0 (h2 - 1) && rng ((c : Int) + dc) 0 (w2 - 1)) = true
    · have hin2 := hin
      rw [Bool.and_eq_true, rng_iff, rng_iff] at hin2
      rw [if_pos hin, if_pos hin, implAt_eq w h l hk (r : Int) (c : Int) (by omega) (by omega), implAt_eq w2 h2 l2 hk2 _ _ hin2.1 hin2.2, Option.bind_some, Option.bind_some, wrap_id (s.2 + 1) (by omega) (by omega), wrap_id ((c : Int) + 1) (by omega) (by omega)]
      by_cases he : rd l ((r : Int) * w + (c : Int)) = rd l2 (((r : Int) + dr) * w2 + ((c : Int) + dc))
      · rw [if_pos he, if_pos he]
      · rw [if_neg he, if_neg he, if_pos (by omega)]
    · rw [if_neg hin, if_neg hin, wrap_id ((c : Int) + 1) (by omega) (by omega)]
  · refine Ev.step (fun k => ?_) hv
    rw [impl_wrong.l1, if_neg (by omega), wrap_id _ (by omega) (by omega)]
    rfl
theorem implWrong_ev (w h : Int) (l : List Int) (w2 h2 : Int) (l2 : List Int) (dr dc : Int) (hk : okChart w h l = true) (hk2 : okChart w2 h2 l2 = true) (hdr : -2 ≤ dr ∧ dr ≤ 2) (hdc : -2 ≤ dc ∧ dc ≤ 2) : Ev (fun k => impl_wrong.f k w h l w2 h2 l2 dr dc) (wrongF w h l w2 h2 l2 dr dc) := by
  obtain ⟨_, hw, hh, hlen, h64⟩ := okChart_iff w h l hk
  unfold impl_wrong.f
  refine Ev.foldK (fun k i (s : List SP × Int) => impl_wrong.l0 k dr dc s.1 s.2 h i w h l w2 h2 l2) h.toNat (rowF w l w2 h2 l2 dr dc) (fun i s => okW h (i * w.toNat) s) _ (fun r s hr hs => ⟨?_, fun h1 => ?_⟩) ([], 0) ⟨by simp, by simp, by simp, fun x hx => by cases hx⟩ ?_
  · rw [Nat.succ_mul]
    exact rowF_ok w h l w2 h2 l2 dr dc r _ (by omega) s hs
  · refine Ev.step (fun k => by rw [impl_wrong.l0, if_pos (by omega)]) (implWrong_row w h l w2 h2 l2 dr dc hk hk2 hdr hdc r (by omega) (r * w.toNat) ?_ s hs _ h1)
    have := Nat.mul_le_mul (show r ≤ 8 by omega) (show w.toNat ≤ 8 by omega)
    omega
  · refine Ev.step (f := fun _ => some (wrongF w h l w2 h2 l2 dr dc)) (fun k => ?_) (Ev.now _)
    rw [impl_wrong.l0, if_neg (by omega)]
    rfl
def okPhotos (w h : Int) (l : List Int) (w2 h2 : Int) (l2 : List Int) (dr dc : Int) : Bool := okChart w h l && (okChart w2 h2 l2 && (rng dr (-2) 2 && rng dc (-2) 2))
theorem specShift_ev (w h : Int) (l : List Int) (w2 h2 : Int) (l2 : List Int) (dr dc : Int) (hl : l.length ≤ 2000000) (hl2 : l2.length ≤ 2000000) : Ev (fun k => spec_l13Shift.f k w h l w2 h2 l2 dr dc) (okPhotos w h l w2 h2 l2 dr dc) := by
  unfold spec_l13Shift.f okPhotos
  refine Ev.bind (l2Good_ev w h l hl) ?_
  cases okChart w h l with
  | false => simp only [Bool.false_eq_true, if_false, Bool.false_and]; exact Ev.now _
  | true =>
    simp only [if_true, Bool.true_and]
    refine Ev.bind (l2Good_ev w2 h2 l2 hl2) ?_
    cases okChart w2 h2 l2 with
    | false => simp only [Bool.false_eq_true, if_false, Bool.false_and]; exact Ev.now _
    | true =>
      simp only [if_true, Bool.true_and, l1In_eq, Option.bind_some]
      cases rng dr (-2) 2 <;> exact Ev.now _
theorem arePhotos_eq (w h : Int) (l : List Int) (w2 h2 : Int) (l2 : List Int) (dr dc : Int) : impl_arePhotos.f w h l w2 h2 l2 dr dc = some (okPhotos w h l w2 h2 l2 dr dc) := by
  unfold impl_arePhotos.f impl_isShift.f okPhotos
  simp only [IsChart_eq, in_eq, Option.bind_some]
  cases okChart w h l <;> cases okChart w2 h2 l2 <;> cases rng dr (-2) 2 <;> rfl
theorem okPhotos_iff (w h : Int) (l : List Int) (w2 h2 : Int) (l2 : List Int) (dr dc : Int) (hp : okPhotos w h l w2 h2 l2 dr dc = true) : okChart w h l = true ∧ okChart w2 h2 l2 = true ∧ (-2 ≤ dr ∧ dr ≤ 2) ∧ (-2 ≤ dc ∧ dc ≤ 2) := by
  unfold okPhotos at hp
  rwa [Bool.and_eq_true, Bool.and_eq_true, Bool.and_eq_true, rng_iff, rng_iff] at hp
theorem WrongKnots_same (w h : Int) (l : List Int) (w2 h2 : Int) (l2 : List Int) (dr dc : Int) (hl : l.length ≤ 2000000) (hl2 : l2.length ≤ 2000000) : ∃ r : List SP × Bool, r.1.length ≤ 64 ∧ Ev (fun k => spec_WrongKnots.f k w h l w2 h2 l2 dr dc) r ∧ Ev (fun k => impl_WrongKnots.f k w h l w2 h2 l2 dr dc) r := by
  unfold spec_WrongKnots.f impl_WrongKnots.f
  simp only [arePhotos_eq, Option.bind_some]
  cases hp : okPhotos w h l w2 h2 l2 dr dc with
  | false =>
    refine ⟨([], false), Nat.zero_le _, Ev.bind (specShift_ev w h l w2 h2 l2 dr dc hl hl2) ?_, ?_⟩
    · simp only [hp, Bool.false_eq_true, if_false]; exact Ev.now _
    · simp only [Bool.false_eq_true, if_false]; exact Ev.now _
  | true =>
    obtain ⟨h1, h3, h4, h5⟩ := okPhotos_iff _ _ _ _ _ _ _ _ hp
    obtain ⟨_, hw, hh, _, _⟩ := okChart_iff w h l h1
    obtain ⟨o1, o2, o3, o4⟩ := wrongF_ok w h l w2 h2 l2 dr dc
    have ob := Nat.mul_le_mul (show h.toNat ≤ 8 by omega) (show w.toNat ≤ 8 by omega)
    refine ⟨((wrongF w h l w2 h2 l2 dr dc).1, true), by dsimp only; omega, Ev.bind (specShift_ev w h l w2 h2 l2 dr dc hl hl2) ?_, ?_⟩
    · simp only [hp, if_true]
      exact Ev.bind (specWrong_ev w h l w2 h2 l2 dr dc h1 h3 h4 h5) (Ev.now _)
    · simp only [if_true]
      exact Ev.bind (implWrong_ev w h l w2 h2 l2 dr dc h1 h3 h4 h5) (Ev.now _)
theorem eqA2_ev (t : List SP) (ht : t.length ≤ 2000000) : Ev (fun k => laws_eqIntA2S.f k t t) true := by
  obtain ⟨r, hr, h⟩ := Ev.loopE (fun k i (_ : Unit) => laws_eqIntA2S.l0 k t t i) t.length (fun _ _ => True) (fun r => r = true)
    (fun s _ => ⟨true, rfl, Ev.step (f := fun _ => some true) (fun k => by rw [laws_eqIntA2S.l0, if_neg (by omega)]) (Ev.now _)⟩)
    (fun i s hi _ => ⟨(), trivial, fun r h => Ev.step (fun k => by
      rw [laws_eqIntA2S.l0, if_pos (by omega), if_pos (by omega), if_pos (by omega)]
      unfold laws_eqIntA2.f
      simp only [decide_true, Bool.and_self, Option.bind_some, if_true]
      rw [wrap_id _ (by omega) (by omega)]) h⟩) () trivial
  subst hr
  unfold laws_eqIntA2S.f
  simp only [if_true]
  exact h
theorem markN2_get (l : List SP) (a : Int) (i : Nat) : i ≤ l.length → ∀ j, j < i → (markN2 l a i).getD j z79 = ⟨a + 2 * (j : Int), a + 2 * (j : Int) + 1⟩ := by
  induction i with
  | zero => intro _ j hj; omega
  | succ i ih =>
    intro hi j hj
    rw [markN2, getD_set]
    by_cases e : i = j
    · subst e
      rw [if_pos ⟨rfl, by rw [markN2_length]; omega⟩]
    · rw [if_neg (fun h => e h.1)]
      exact ih (by omega) j (by omega)
theorem markA2_eq (l : List SP) (hl : l.length ≤ 2000000) : laws_markIntA2S.f l 1 = some (1 + 2 * (l.length : Int), markN2 l 1 l.length) := by
  unfold laws_markIntA2S.f
  rw [if_pos ⟨by omega, by omega, by omega⟩]
theorem heldA2_eq (l : List SP) (hl : l.length ≤ 2000000) : laws_heldIntA2S.f (markN2 l 1 l.length) 1 = some (1 + 2 * (l.length : Int)) := by
  unfold laws_heldIntA2S.f
  have e : isMark2 (markN2 l 1 l.length) 1 = true := by
    unfold isMark2
    rw [List.all_eq_true]
    intro j hj
    have hj' := List.mem_range.1 hj
    rw [markN2_length] at hj'
    rw [markN2_get l 1 l.length (Nat.le_refl _) j hj']
    simp
  rw [if_pos ⟨⟨by omega, by omega, by rw [markN2_length]; omega⟩, e⟩, markN2_length]
theorem eqInts_ev (t : List Int) (ht : t.length ≤ 2000000) : Ev (fun k => laws_eqIntS.f k t t) true := by
  refine Ev.congr (f := fun k => laws_eqIntS.l0 k t t 0) (fun k => by unfold laws_eqIntS.f; rw [if_pos rfl]) ?_
  obtain ⟨r, hr, h⟩ := Ev.loopE (fun k i (_ : Unit) => laws_eqIntS.l0 k t t i) t.length (fun _ _ => True) (fun r => r = true)
    (fun s _ => ⟨true, rfl, Ev.step (fun k => by rw [laws_eqIntS.l0, if_neg (by omega)]) (Ev.now true)⟩)
    (fun i s hi _ => ⟨(), trivial, fun r h => Ev.step (fun k => by
      rw [laws_eqIntS.l0, if_pos (by omega), if_pos (by omega), if_pos (by omega), if_pos rfl, wrap_id _ (by omega) (by omega)]) h⟩) () trivial
  subst hr
  exact h
theorem eqChart_ev (w h : Int) (t : List Int) (hl : t.length ≤ 2000000) : Ev (fun k => laws_eqChart.f k w h t w h t) true := by
  unfold laws_eqChart.f
  simp only [if_true]
  exact Ev.bind (eqInts_ev t hl) (by simp only [if_true]; exact Ev.now _)
theorem szChartN (w h : Int) (l : List Int) (n : Int) (hn0 : 0 ≤ n) (hn : n ≤ 1048576) (hm : l.length ≤ maxLen) : laws_szChart.f w h l n = some (if (l.length : Int) ≤ n then n - (l.length : Int) else -1) := by
  have hm' : l.length ≤ 9223372036854775807 := hm
  unfold laws_szChart.f laws_szIntS.f
  rw [wrap_id _ (by omega) (by omega)]
  by_cases h : (l.length : Int) ≤ n
  · rw [if_pos h, if_neg (by omega), Option.bind_some, if_neg (by omega)]
  · rw [if_neg h, if_pos (by omega)]
    rfl
theorem markN_ev (t : List Int) (m0 : Int) (hm0 : 0 ≤ m0) (hm1 : m0 ≤ 8000000) (ht : t.length ≤ 2000000) : ∃ t' : List Int, Ev (fun k => laws_markIntS.f k t m0) (m0 + (t.length : Int), t') := by
  unfold laws_markIntS.f
  obtain ⟨⟨m, t'⟩, hm, h⟩ := Ev.loopE (fun k i (q : Int × List Int) => laws_markIntS.l0 k q.2 q.1 i) t.length
    (fun i q => q.1 = m0 + (i : Int) ∧ q.2.length = t.length) (fun r => r.1 = m0 + (t.length : Int))
    (fun s hs => ⟨s, hs.1, Ev.step (fun k => by rw [laws_markIntS.l0, if_neg (by omega)]) (Ev.now s)⟩)
    (fun i s hi hs => ⟨(s.1 + 1, s.2.set i s.1), ⟨by have := hs.1; simp only; omega, by simp [hs.2]⟩, fun r h => Ev.step (fun k => by
      have h1 := hs.1
      have h2 := hs.2
      rw [laws_markIntS.l0, if_pos (by omega), if_pos (by omega), wrap_id _ (by omega) (by omega), wrap_id _ (by omega) (by omega), Int.toNat_natCast]) h⟩) (m0, t) ⟨by simp, rfl⟩
  simp only at hm
  subst hm
  exact ⟨t', h⟩
theorem markChartN_ev (w h : Int) (t : List Int) (m0 : Int) (hm0 : 0 ≤ m0) (hm1 : m0 ≤ 8000000) (ht : t.length ≤ 2000000) : ∃ t' : List Int, Ev (fun k => laws_markChart.f k w h t m0) (m0 + (t.length : Int), t') := by
  obtain ⟨t', h⟩ := markN_ev t m0 hm0 hm1 ht
  exact ⟨t', by unfold laws_markChart.f; exact Ev.bind h (Ev.now _)⟩
theorem FnExactWrongKnots (a0_0 : Int) (a0_1 : Int) (l0_2 : List (Int)) (a1_0 : Int) (a1_1 : Int) (l1_2 : List (Int)) (a2 : Int) (a3 : Int) (q_a0_0 : (Lit.int .i64 a0_0).wf = true) (q_a0_1 : (Lit.int .i64 a0_1).wf = true) (q_l0_2 : (l0_2.length ≤ maxLen ∧ ∀ q ∈ l0_2, (Lit.int .i64 q).wf = true)) (q_a1_0 : (Lit.int .i64 a1_0).wf = true) (q_a1_1 : (Lit.int .i64 a1_1).wf = true) (q_l1_2 : (l1_2.length ≤ maxLen ∧ ∀ q ∈ l1_2, (Lit.int .i64 q).wf = true)) (q_a2 : (Lit.int .i64 a2).wf = true) (q_a3 : (Lit.int .i64 a3).wf = true) : ∃ k, laws_FnExactWrongKnots.f k a0_0 a0_1 l0_2 a1_0 a1_1 l1_2 a2 a3 = some true := by
  by_cases hl : (l0_2.length : Int) ≤ 1048576
  · by_cases hl2 : (l1_2.length : Int) ≤ 1048576 - (l0_2.length : Int)
    · obtain ⟨t, ht, K1, h1⟩ := toChart_ev a0_0 a0_1 l0_2 (by omega)
      obtain ⟨u, hu, K5, h5⟩ := toChart_ev a1_0 a1_1 l1_2 (by omega)
      obtain ⟨r, hr, ⟨K2, h2⟩, K3, h3⟩ := WrongKnots_same a0_0 a0_1 t a1_0 a1_1 u a2 a3 (by omega) (by omega)
      obtain ⟨K4, h4⟩ := eqChart_ev a0_0 a0_1 t (by omega)
      obtain ⟨K6, h6⟩ := eqChart_ev a1_0 a1_1 u (by omega)
      obtain ⟨t', K7, h7⟩ := markChartN_ev a0_0 a0_1 t 1 (by omega) (by omega) (by omega)
      obtain ⟨u', K8, h8⟩ := markChartN_ev a1_0 a1_1 u (1 + (t.length : Int)) (by omega) (by omega) (by omega)
      obtain ⟨K9, h9⟩ := eqA2_ev r.1 (by omega)
      have h10 := markA2_eq r.1 (by omega)
      have h11 := heldA2_eq r.1 (by omega)
      obtain ⟨N, hN⟩ : ∃ N, N = K1 + K2 + K3 + K4 + K5 + K6 + K7 + K8 + K9 := ⟨_, rfl⟩
      replace h1 := fun j => h1 (N + j) (by omega)
      replace h2 := fun j => h2 (N + j) (by omega)
      replace h3 := fun j => h3 (N + j) (by omega)
      replace h4 := fun j => h4 (N + j) (by omega)
      replace h5 := fun j => h5 (N + j) (by omega)
      replace h6 := fun j => h6 (N + j) (by omega)
      replace h7 := fun j => h7 (N + j) (by omega)
      replace h8 := fun j => h8 (N + j) (by omega)
      replace h9 := fun j => h9 (N + j) (by omega)
      dsimp only at h1 h2 h3 h4 h5 h6 h7 h8 h9
      refine ⟨N + 4, ?_⟩
      have n1 : ¬ 1 + (t.length : Int) + (u.length : Int) < 0 := by omega
      have n2 : ¬ 1 + 2 * (r.1.length : Int) < 0 := by omega
      unfold laws_FnExactWrongKnots.f
      rw [szChartN _ _ _ _ (by omega) (by omega) q_l0_2.1, if_pos hl, Option.bind_some, if_neg (by omega), szChartN _ _ _ _ (by omega) (by omega) q_l1_2.1, if_pos hl2, Option.bind_some, if_neg (by omega)]
      simp only [h1, h2, h3, h4, h5, h6, h7, h8, h9, h10, h11, n1, n2, laws_FnExactWrongKnots.j0, laws_FnExactWrongKnots.j1, laws_FnExactWrongKnots.j2, Option.bind_some, if_true, if_false, bne_self_eq_false, Bool.false_eq_true]
    · refine ⟨0, ?_⟩
      unfold laws_FnExactWrongKnots.f
      rw [szChartN _ _ _ _ (by omega) (by omega) q_l0_2.1, if_pos hl, Option.bind_some, if_neg (by omega), szChartN _ _ _ _ (by omega) (by omega) q_l1_2.1, if_neg hl2]
      rfl
  · refine ⟨0, ?_⟩
    unfold laws_FnExactWrongKnots.f
    rw [szChartN _ _ _ _ (by omega) (by omega) q_l0_2.1, if_neg hl]
    rfl
end Go.Proofs.Ytcjalfgnnabghaa.Pure
