/- The plain law of FnExactIsSamePiece: what the program's functions compute is what the reference's compute. No program and no memory in it. -/
import Derived.Test.YtcjalfgnnabghaaHx25
import Derived.Test.YtcjalfgnnabghaaLps
namespace Go.Proofs.Ytcjalfgnnabghaa.Pure
open Go.RowKit Go.Proofs.YtcjalfgnnabghaaW.PrintWords Go.Proofs.YtcjalfgnnabghaaW.PrintLast Go.Proofs.Ytcjalfgnnabghaa.H
set_option linter.unusedVariables false
set_option linter.unusedSimpArgs false
theorem Ev.foldK {σ ρ : Type} (g : Nat → Int → σ → Option ρ) (n : Nat) (f : Nat → σ → σ) (Inv : Nat → σ → Prop) (r : ρ)
    (hstep : ∀ (i : Nat) s, i < n → Inv i s → Inv (i + 1) (f i s) ∧ (Ev (fun k => g k ((i : Int) + 1) (f i s)) r → Ev (fun k => g k (i : Int) s) r))
    (s : σ) (h0 : Inv 0 s) (hend : Ev (fun k => g k (n : Int) (loopN f n s)) r) : Ev (fun k => g k 0 s) r := by
  have key : ∀ i, i ≤ n → Inv i (loopN f i s) ∧ (Ev (fun k => g k (i : Int) (loopN f i s)) r → Ev (fun k => g k 0 s) r) := by
    intro i
    induction i with
    | zero => exact fun _ => ⟨h0, fun h => h⟩
    | succ i ih =>
      intro hi
      obtain ⟨h1, h2⟩ := ih (by omega)
      obtain ⟨h3, h4⟩ := hstep i _ (by omega) h1
      refine ⟨h3, fun h => h2 (h4 ?_)⟩
      have e : ((i + 1 : Nat) : Int) = (i : Int) + 1 := by omega
      rw [e] at h
      exact h
  exact (key n (Nat.le_refl _)).2 hend
theorem loopN_inv {σ : Type} (f : Nat → σ → σ) (Inv : Nat → σ → Prop) (n : Nat) (hstep : ∀ i s, i < n → Inv i s → Inv (i + 1) (f i s)) (s : σ) (h0 : Inv 0 s) : Inv n (loopN f n s) := by
  have key : ∀ i, i ≤ n → Inv i (loopN f i s) := by
    intro i
    induction i with
    | zero => exact fun _ => h0
    | succ i ih => exact fun hi => hstep i _ (by omega) (ih (by omega))
  exact key n (Nat.le_refl _)
theorem l1In_eq (a b c : Int) : spec_l1In.f a b c = some (rng a b c) := spec_l1In.eq a b c
theorem in_eq (a b c : Int) : impl_in.f a b c = some (rng a b c) := impl_in.eq a b c
theorem ext_getD {α : Type} (z : α) (a b : List α) (hl : a.length = b.length) (h : ∀ j, j < a.length → a.getD j z = b.getD j z) : a = b := by
  apply List.ext_getElem hl
  intro j h1 h2
  have := h j h1
  rwa [List.getD_eq_getElem?_getD, List.getD_eq_getElem?_getD, List.getElem?_eq_getElem h1, List.getElem?_eq_getElem h2] at this
theorem take_succ_getD {α : Type} (z : α) (a : List α) (i : Nat) (h : i < a.length) : a.take (i + 1) = a.take i ++ [a.getD i z] := by
  rw [List.take_succ_eq_append_getElem h, List.getD_eq_getElem?_getD, List.getElem?_eq_getElem h]
  rfl
theorem getD_map' {α β : Type} (f : α → β) (z : α) (y : β) (a : List α) (i : Nat) (h : i < a.length) : (a.map f).getD i y = f (a.getD i z) := by
  rw [List.getD_eq_getElem?_getD, List.getElem?_map, List.getD_eq_getElem?_getD, List.getElem?_eq_getElem h]
  rfl
theorem set_mid {α : Type} (f : α → α) (z : α) (a : List α) (i : Nat) (h : i < a.length) : ((a.take i).map f ++ a.drop i).set i (f (a.getD i z)) = (a.take (i + 1)).map f ++ a.drop (i + 1) := by
  have e : a.drop i = a.getD i z :: a.drop (i + 1) := by
    rw [List.drop_eq_getElem_cons h, List.getD_eq_getElem?_getD, List.getElem?_eq_getElem h]
    rfl
  rw [e, take_succ_getD z a i h, List.map_append, List.append_assoc]
  have hl : ((a.take i).map f).length = i := by rw [List.length_map, List.length_take]; omega
  rw [List.set_append_right _ _ (by omega), hl, Nat.sub_self]
  rfl
theorem mid_getD {α : Type} (f : α → α) (z : α) (a : List α) (i : Nat) (h : i < a.length) : ((a.take i).map f ++ a.drop i).getD i z = a.getD i z := by
  have hl : ((a.take i).map f).length = i := by rw [List.length_map, List.length_take]; omega
  rw [List.getD_eq_getElem?_getD, List.getElem?_append_right (by omega), hl, Nat.sub_self, List.getElem?_drop, Nat.add_zero, List.getD_eq_getElem?_getD]
theorem mid_length {α : Type} (f : α → α) (a : List α) (i : Nat) : ((a.take i).map f ++ a.drop i).length = a.length := by
  rw [List.length_append, List.length_map, List.length_take, List.length_drop]; omega
def okChart (w h : Int) (l : List Int) : Bool := (l.all fun x => rng x 0 5) && (rng w 1 8 && (rng h 1 8 && ((l.length : Int) == wrap64 (w * h))))
theorem okChart_iff (w h : Int) (l : List Int) (hk : okChart w h l = true) : (∀ i, i < l.length → 0 ≤ l.getD i 0 ∧ l.getD i 0 ≤ 5) ∧ (1 ≤ w ∧ w ≤ 8) ∧ (1 ≤ h ∧ h ≤ 8) ∧ (l.length : Int) = w * h ∧ l.length ≤ 64 := by
  unfold okChart at hk
  simp only [Bool.and_eq_true, rng_iff, beq_iff_eq] at hk
  obtain ⟨h1, h2, h3, h4⟩ := hk
  have p0 : 0 ≤ w * h := Int.mul_nonneg (by omega) (by omega)
  have p1 : w * h ≤ 8 * 8 := Int.mul_le_mul h2.2 h3.2 (by omega) (by omega)
  rw [wrap_id _ (by omega) (by omega)] at h4
  refine ⟨fun i hi => ?_, h2, h3, h4, by omega⟩
  have := (all_getD 0 l _).1 h1 i hi
  exact (rng_iff _ _ _).1 this
theorem l2Good_ev (w h : Int) (l : List Int) (hl : l.length ≤ 2000000) : Ev (fun k => spec_l2Good.f k w h l) (okChart w h l) := by
  unfold spec_l2Good.f
  have e : okChart w h l = ((List.range l.length).all (fun i => rng (l.getD i 0) 0 5) && (rng w 1 8 && (rng h 1 8 && ((l.length : Int) == wrap64 (w * h))))) := by
    unfold okChart
    congr 1
    rw [Bool.eq_iff_iff, all_getD 0, all_range]
  rw [e]
  refine Ev.scan (fun k i => spec_l2Good.l0 k i w h l) l.length _ _ (Ev.step (f := fun _ => some _) (fun k => ?_) (Ev.now _)) ?_ ?_
  · rw [spec_l2Good.l0, if_neg (by omega)]
    unfold spec_l2Side.f
    simp only [l1In_eq, Option.bind_some]
    cases rng w 1 8 <;> cases rng h 1 8 <;> rfl
  · intro i hi hg
    refine Ev.step (f := fun _ => some false) (fun k => ?_) (Ev.now _)
    rw [spec_l2Good.l0, if_pos (by omega), if_pos (by omega)]
    unfold spec_l2Color.f
    have e0 : rd l (i : Int) = l.getD i 0 := rfl
    rw [l1In_eq, e0, hg]
    rfl
  · intro i r hi hg hr
    refine Ev.step (fun k => ?_) hr
    rw [spec_l2Good.l0, if_pos (by omega), if_pos (by omega)]
    unfold spec_l2Color.f
    have e0 : rd l (i : Int) = l.getD i 0 := rfl
    rw [l1In_eq, e0, hg, wrap_id _ (by omega) (by omega)]
    rfl
theorem IsChart_eq (w h : Int) (l : List Int) : impl_IsChart.f w h l = some (okChart w h l) := by
  unfold impl_IsChart.f impl_isSide.f areAll_impl_isColor.f okChart
  simp only [in_eq, Option.bind_some]
  by_cases e : (l.length : Int) = wrap64 (w * h)
  · rw [if_pos e, beq_iff_eq.2 e]
    cases rng w 1 8 <;> cases rng h 1 8 <;> simp
  · rw [if_neg e, beq_eq_false_iff_ne.2 e]
    cases rng w 1 8 <;> cases rng h 1 8 <;> simp
theorem szChart1 (w h : Int) (l : List Int) (hk : ¬ (l.length : Int) ≤ 1048576) (hm : l.length ≤ maxLen) : laws_szChart.f w h l 1048576 = some (-1) := by
  have hm' : l.length ≤ 9223372036854775807 := hm
  unfold laws_szChart.f laws_szIntS.f
  rw [wrap_id _ (by omega) (by omega), if_pos (by omega)]
  rfl
theorem szChart2 (w h : Int) (l : List Int) (hk : (l.length : Int) ≤ 1048576) : laws_szChart.f w h l 1048576 = some (1048576 - (l.length : Int)) := by
  unfold laws_szChart.f laws_szIntS.f
  rw [wrap_id _ (by omega) (by omega), if_neg (by omega), Option.bind_some, if_neg (by omega)]
theorem toInts_ev (l : List Int) (hl : l.length ≤ 2000000) : ∃ t : List Int, t.length = l.length ∧ Ev (fun k => laws_toIntS.f k l) t := by
  obtain ⟨r, hr, h⟩ := Ev.loopE (fun k i (s : List Int) => laws_toIntS.l0 k l s i) l.length (fun _ s => s.length = l.length) (fun r => r.length = l.length)
    (fun s hs => ⟨s, hs, Ev.step (fun k => by rw [laws_toIntS.l0, if_neg (by omega)]) (Ev.now s)⟩)
    (fun i s hi hs => ⟨s.set i (rd l i), by simp [hs], fun r h => Ev.step (fun k => by
      rw [laws_toIntS.l0, if_pos (by omega), if_pos (by omega), if_pos (by omega), wrap_id _ (by omega) (by omega), Int.toNat_natCast]) h⟩) (List.replicate l.length 0) (by simp)
  refine ⟨r, hr, Ev.congr (fun k => ?_) h⟩
  unfold laws_toIntS.f
  rw [if_pos (by omega), if_pos (by omega), Int.toNat_natCast]
theorem toChart_ev (w h : Int) (l : List Int) (hl : l.length ≤ 2000000) : ∃ t : List Int, t.length = l.length ∧ Ev (fun k => laws_toChart.f k w h l) (w, h, t) := by
  obtain ⟨t, ht, hv⟩ := toInts_ev l hl
  exact ⟨t, ht, by unfold laws_toChart.f; exact Ev.bind hv (Ev.now _)⟩
theorem hasPlace_eq (w h : Int) (l : List Int) (hk : okChart w h l = true) (r c : Int) : impl_Chart_hasPlace.f w h l r c = some (rng r 0 (h - 1) && rng c 0 (w - 1)) := by
  obtain ⟨_, hw, hh, hlen, h64⟩ := okChart_iff w h l hk
  unfold impl_Chart_hasPlace.f
  simp only [in_eq, Option.bind_some]
  rw [wrap_id (h - 1) (by omega) (by omega), wrap_id (w - 1) (by omega) (by omega)]
  cases rng r 0 (h - 1) <;> rfl
abbrev SP := S79
theorem at_idx (w h : Int) (l : List Int) (hk : okChart w h l = true) (r c : Int) (hr : 0 ≤ r ∧ r ≤ h - 1) (hc : 0 ≤ c ∧ c ≤ w - 1) : 0 ≤ r * w + c ∧ r * w + c < (l.length : Int) ∧ 0 ≤ r * w ∧ r * w ≤ 64 := by
  obtain ⟨_, hw, hh, hlen, h64⟩ := okChart_iff w h l hk
  have a : 0 ≤ r * w := Int.mul_nonneg hr.1 (by omega)
  have b : r * w ≤ (h - 1) * w := Int.mul_le_mul_of_nonneg_right hr.2 (by omega)
  rw [Int.sub_mul, Int.one_mul, Int.mul_comm h w] at b
  omega
theorem specAt_eq (w h : Int) (l : List Int) (hk : okChart w h l = true) (r c : Int) (hr : 0 ≤ r ∧ r ≤ h - 1) (hc : 0 ≤ c ∧ c ≤ w - 1) : spec_l2At.f w h l r c = some (rd l (r * w + c)) := by
  obtain ⟨h1, h2, h3, h4⟩ := at_idx w h l hk r c hr hc
  obtain ⟨_, hw, hh, hlen, h64⟩ := okChart_iff w h l hk
  unfold spec_l2At.f
  rw [wrap_id (r * w) (by omega) (by omega), wrap_id (r * w + c) (by omega) (by omega), if_pos h1, if_pos h2]
theorem implAt_eq (w h : Int) (l : List Int) (hk : okChart w h l = true) (r c : Int) (hr : 0 ≤ r ∧ r ≤ h - 1) (hc : 0 ≤ c ∧ c ≤ w - 1) : impl_Chart_at.f w h l r c = some (rd l (r * w + c)) := by
  obtain ⟨h1, h2, h3, h4⟩ := at_idx w h l hk r c hr hc
  obtain ⟨_, hw, hh, hlen, h64⟩ := okChart_iff w h l hk
  unfold impl_Chart_at.f
  rw [wrap_id (r * w) (by omega) (by omega), wrap_id (r * w + c) (by omega) (by omega), if_pos h1, if_pos h2]
theorem within_ev (w h : Int) (l : List Int) (hk : okChart w h l = true) (r c : Int) : Ev (fun k => spec_l2Within.f k w h l r c) (rng r 0 (h - 1) && rng c 0 (w - 1)) := by
  obtain ⟨_, hw, hh, hlen, h64⟩ := okChart_iff w h l hk
  unfold spec_l2Within.f
  refine Ev.bind (l2Good_ev w h l (by omega)) ?_
  simp only [hk, if_true, l1In_eq, Option.bind_some]
  rw [wrap_id (h - 1) (by omega) (by omega), wrap_id (w - 1) (by omega) (by omega)]
  cases rng r 0 (h - 1) <;> exact Ev.now _
def cellF (w : Int) (l : List Int) (w2 h2 : Int) (l2 : List Int) (dr dc : Int) (r c : Nat) (s : List SP × Int) : List SP × Int :=
  if (rng ((r : Int) + dr) 0 (h2 - 1) && rng ((c : Int) + dc) 0 (w2 - 1)) = true then (if rd l ((r : Int) * w + (c : Int)) = rd l2 (((r : Int) + dr) * w2 + ((c : Int) + dc)) then (s.1, s.2 + 1) else (s.1 ++ [⟨(r : Int), (c : Int)⟩], s.2 + 1)) else s
def rowF (w : Int) (l : List Int) (w2 h2 : Int) (l2 : List Int) (dr dc : Int) (r : Nat) (s : List SP × Int) : List SP × Int := loopN (cellF w l w2 h2 l2 dr dc r) w.toNat s
def wrongF (w h : Int) (l : List Int) (w2 h2 : Int) (l2 : List Int) (dr dc : Int) : List SP × Int := loopN (rowF w l w2 h2 l2 dr dc) h.toNat ([], 0)
def okW (h : Int) (b : Nat) (s : List SP × Int) : Prop := s.1.length ≤ b ∧ 0 ≤ s.2 ∧ s.2 ≤ (b : Int) ∧ ∀ x ∈ s.1, 0 ≤ x.f0 ∧ x.f0 < h
theorem cellF_ok (w h : Int) (l : List Int) (w2 h2 : Int) (l2 : List Int) (dr dc : Int) (r c b : Nat) (hr : (r : Int) < h) (s : List SP × Int) (hs : okW h b s) : okW h (b + 1) (cellF w l w2 h2 l2 dr dc r c s) := by
  obtain ⟨h1, h3, h4, h5⟩ := hs
  unfold cellF
  split
  · split
    · exact ⟨by dsimp only; omega, by dsimp only; omega, by dsimp only; omega, h5⟩
    · refine ⟨by simp; omega, by dsimp only; omega, by dsimp only; omega, fun x hx => ?_⟩
      rcases List.mem_append.1 hx with hx | hx
      · exact h5 x hx
      · rw [List.mem_singleton.1 hx]
        exact ⟨Int.natCast_nonneg _, hr⟩
  · exact ⟨by omega, h3, by omega, h5⟩
theorem rowF_ok (w h : Int) (l : List Int) (w2 h2 : Int) (l2 : List Int) (dr dc : Int) (r b : Nat) (hr : (r : Int) < h) (s : List SP × Int) (hs : okW h b s) : okW h (b + w.toNat) (rowF w l w2 h2 l2 dr dc r s) :=
  loopN_inv _ (fun i s => okW h (b + i) s) w.toNat (fun i s _ hs => cellF_ok w h l w2 h2 l2 dr dc r i (b + i) hr s hs) s hs
theorem wrongF_ok (w h : Int) (l : List Int) (w2 h2 : Int) (l2 : List Int) (dr dc : Int) : okW h (h.toNat * w.toNat) (wrongF w h l w2 h2 l2 dr dc) := by
  have := loopN_inv (rowF w l w2 h2 l2 dr dc) (fun i s => okW h (i * w.toNat) s) h.toNat (fun i s hi hs => by
    rw [Nat.succ_mul]
    exact rowF_ok w h l w2 h2 l2 dr dc i _ (by omega) s hs) ([], 0) ⟨by simp, by simp, by simp, fun x hx => by cases hx⟩
  exact this
theorem specWrong_row (w h : Int) (l : List Int) (w2 h2 : Int) (l2 : List Int) (dr dc : Int) (hk : okChart w h l = true) (hk2 : okChart w2 h2 l2 = true) (hdr : -2 ≤ dr ∧ dr ≤ 2) (hdc : -2 ≤ dc ∧ dc ≤ 2) (r : Nat) (hr : (r : Int) < h) (b : Nat) (hb : b ≤ 100) (s : List SP × Int) (hs : okW h b s) (v : List SP × Int)
    (hv : Ev (fun k => spec_l13Wrong.l0 k dr dc (rowF w l w2 h2 l2 dr dc r s).1 (rowF w l w2 h2 l2 dr dc r s).2 ((r : Int) + 1) w h l w2 h2 l2) v) : Ev (fun k => spec_l13Wrong.l1 k dr dc s.1 s.2 (r : Int) 0 w h l w2 h2 l2) v := by
  obtain ⟨_, hw, hh, hlen, h64⟩ := okChart_iff w h l hk
  refine Ev.foldK (fun k i (s : List SP × Int) => spec_l13Wrong.l1 k dr dc s.1 s.2 (r : Int) i w h l w2 h2 l2) w.toNat (cellF w l w2 h2 l2 dr dc r) (fun i s => okW h (b + i) s) v (fun c s hc hs => ⟨cellF_ok w h l w2 h2 l2 dr dc r c (b + c) hr s hs, fun h1 => ?_⟩) s hs ?_
  · obtain ⟨q1, q3, q4, _⟩ := hs
    refine Ev.step (f := fun k => (spec_l2Within.f k w2 h2 l2 ((r : Int) + dr) ((c : Int) + dc)).bind _) (fun k => by rw [spec_l13Wrong.l1, if_pos (by omega), wrap_id ((r : Int) + dr) (by omega) (by omega), wrap_id ((c : Int) + dc) (by omega) (by omega)]) ?_
    refine Ev.bind (within_ev w2 h2 l2 hk2 _ _) ?_
    unfold cellF at h1
    by_cases hin : (rng ((r : Int) + dr) 0 (h2 - 1) && rng ((c : Int) + dc) 0 (w2 - 1)) = true
    · have hin2 := hin
      rw [Bool.and_eq_true, rng_iff, rng_iff] at hin2
      rw [if_pos hin] at h1
      simp only [hin, if_true]
      rw [specAt_eq w h l hk (r : Int) (c : Int) (by omega) (by omega), specAt_eq w2 h2 l2 hk2 _ _ hin2.1 hin2.2]
      simp only [Option.bind_some]
      rw [wrap_id (s.2 + 1) (by omega) (by omega), wrap_id ((c : Int) + 1) (by omega) (by omega)]
      by_cases he : rd l ((r : Int) * w + (c : Int)) = rd l2 (((r : Int) + dr) * w2 + ((c : Int) + dc))
      · rw [if_pos he] at h1
        simp only [if_pos he]
        exact h1
      · rw [if_neg he] at h1
        simp only [if_neg he, if_pos (show s.1.length < 8796093022208 by omega)]
        exact h1
    · rw [if_neg hin] at h1
      simp only [if_neg hin]
      rw [wrap_id ((c : Int) + 1) (by omega) (by omega)]
      exact h1
  · refine Ev.step (fun k => ?_) hv
    rw [spec_l13Wrong.l1, if_neg (by omega), wrap_id _ (by omega) (by omega)]
    rfl
theorem specWrong_ev (w h : Int) (l : List Int) (w2 h2 : Int) (l2 : List Int) (dr dc : Int) (hk : okChart w h l = true) (hk2 : okChart w2 h2 l2 = true) (hdr : -2 ≤ dr ∧ dr ≤ 2) (hdc : -2 ≤ dc ∧ dc ≤ 2) : Ev (fun k => spec_l13Wrong.f k w h l w2 h2 l2 dr dc) (wrongF w h l w2 h2 l2 dr dc) := by
  obtain ⟨_, hw, hh, hlen, h64⟩ := okChart_iff w h l hk
  unfold spec_l13Wrong.f
  refine Ev.foldK (fun k i (s : List SP × Int) => spec_l13Wrong.l0 k dr dc s.1 s.2 i w h l w2 h2 l2) h.toNat (rowF w l w2 h2 l2 dr dc) (fun i s => okW h (i * w.toNat) s) _ (fun r s hr hs => ⟨?_, fun h1 => ?_⟩) ([], 0) ⟨by simp, by simp, by simp, fun x hx => by cases hx⟩ ?_
  · rw [Nat.succ_mul]
    exact rowF_ok w h l w2 h2 l2 dr dc r _ (by omega) s hs
  · refine Ev.step (fun k => by rw [spec_l13Wrong.l0, if_pos (by omega)]) (specWrong_row w h l w2 h2 l2 dr dc hk hk2 hdr hdc r (by omega) (r * w.toNat) ?_ s hs _ h1)
    have := Nat.mul_le_mul (show r ≤ 8 by omega) (show w.toNat ≤ 8 by omega)
    omega
  · refine Ev.step (f := fun _ => some (wrongF w h l w2 h2 l2 dr dc)) (fun k => ?_) (Ev.now _)
    rw [spec_l13Wrong.l0, if_neg (by omega)]
    rfl
theorem implWrong_row (w h : Int) (l : List Int) (w2 h2 : Int) (l2 : List Int) (dr dc : Int) (hk : okChart w h l = true) (hk2 : okChart w2 h2 l2 = true) (hdr : -2 ≤ dr ∧ dr ≤ 2) (hdc : -2 ≤ dc ∧ dc ≤ 2) (r : Nat) (hr : (r : Int) < h) (b : Nat) (hb : b ≤ 100) (s : List SP × Int) (hs : okW h b s) (v : List SP × Int)
    (hv : Ev (fun k => impl_wrong.l0 k dr dc (rowF w l w2 h2 l2 dr dc r s).1 (rowF w l w2 h2 l2 dr dc r s).2 h ((r : Int) + 1) w h l w2 h2 l2) v) : Ev (fun k => impl_wrong.l1 k dr dc s.1 s.2 (r : Int) h (r : Int) w 0 w h l w2 h2 l2) v := by
  obtain ⟨_, hw, hh, hlen, h64⟩ := okChart_iff w h l hk
  refine Ev.foldK (fun k i (s : List SP × Int) => impl_wrong.l1 k dr dc s.1 s.2 (r : Int) h (r : Int) w i w h l w2 h2 l2) w.toNat (cellF w l w2 h2 l2 dr dc r) (fun i s => okW h (b + i) s) v (fun c s hc hs => ⟨cellF_ok w h l w2 h2 l2 dr dc r c (b + c) hr s hs, fun h1 => ?_⟩) s hs ?_
  · obtain ⟨q1, q3, q4, _⟩ := hs
    refine Ev.step (f := fun k => impl_wrong.l1 k dr dc (cellF w l w2 h2 l2 dr dc r c s).1 (cellF w l w2 h2 l2 dr dc r c s).2 (r : Int) h (r : Int) w ((c : Int) + 1) w h l w2 h2 l2) (fun k => ?_) h1
    rw [impl_wrong.l1, if_pos (by omega), wrap_id ((r : Int) + dr) (by omega) (by omega), wrap_id ((c : Int) + dc) (by omega) (by omega), hasPlace_eq w2 h2 l2 hk2, Option.bind_some]
    unfold cellF
    by_cases hin : (rng ((r : Int) + dr) 0 (h2 - 1) && rng ((c : Int) + dc) 0 (w2 - 1)) = true
    · have hin2 := hin
      rw [Bool.and_eq_true, rng_iff, rng_iff] at hin2
      rw [if_pos hin, if_pos hin, implAt_eq w h l hk (r : Int) (c : Int) (by omega) (by omega), implAt_eq w2 h2 l2 hk2 _ _ hin2.1 hin2.2, Option.bind_some, Option.bind_some, wrap_id (s.2 + 1) (by omega) (by omega), wrap_id ((c : Int) + 1) (by omega) (by omega)]
      by_cases he : rd l ((r : Int) * w + (c : Int)) = rd l2 (((r : Int) + dr) * w2 + ((c : Int) + dc))
      · rw [if_pos he, if_pos he]
      · rw [if_neg he, if_neg he, if_pos (by omega)]
    · rw [if_neg hin, if_neg hin, wrap_id ((c : Int) + 1) (by omega) (by omega)]
  · refine Ev.step (fun k => ?_) hv
    rw [impl_wrong.l1, if_neg (by omega), wrap_id _ (by omega) (by omega)]
    rfl
theorem implWrong_ev (w h : Int) (l : List Int) (w2 h2 : Int) (l2 : List Int) (dr dc : Int) (hk : okChart w h l = true) (hk2 : okChart w2 h2 l2 = true) (hdr : -2 ≤ dr ∧ dr ≤ 2) (hdc : -2 ≤ dc ∧ dc ≤ 2) : Ev (fun k => impl_wrong.f k w h l w2 h2 l2 dr dc) (wrongF w h l w2 h2 l2 dr dc) := by
  obtain ⟨_, hw, hh, hlen, h64⟩ := okChart_iff w h l hk
  unfold impl_wrong.f
  refine Ev.foldK (fun k i (s : List SP × Int) => impl_wrong.l0 k dr dc s.1 s.2 h i w h l w2 h2 l2) h.toNat (rowF w l w2 h2 l2 dr dc) (fun i s => okW h (i * w.toNat) s) _ (fun r s hr hs => ⟨?_, fun h1 => ?_⟩) ([], 0) ⟨by simp, by simp, by simp, fun x hx => by cases hx⟩ ?_
  · rw [Nat.succ_mul]
    exact rowF_ok w h l w2 h2 l2 dr dc r _ (by omega) s hs
  · refine Ev.step (fun k => by rw [impl_wrong.l0, if_pos (by omega)]) (implWrong_row w h l w2 h2 l2 dr dc hk hk2 hdr hdc r (by omega) (r * w.toNat) ?_ s hs _ h1)
    have := Nat.mul_le_mul (show r ≤ 8 by omega) (show w.toNat ≤ 8 by omega)
    omega
  · refine Ev.step (f := fun _ => some (wrongF w h l w2 h2 l2 dr dc)) (fun k => ?_) (Ev.now _)
    rw [impl_wrong.l0, if_neg (by omega)]
    rfl
abbrev SM := S82
def matchAt (w h : Int) (l : List Int) (w2 h2 : Int) (l2 : List Int) (dr dc : Int) : SM := ⟨dr, dc, ((wrongF w h l w2 h2 l2 dr dc).1.length : Int), (wrongF w h l w2 h2 l2 dr dc).2⟩
def farV (a b : Int) : Int := wrap64 (mx a (wrap64 (-a)) + mx b (wrap64 (-b)))
def betterV (m b : SM) : Bool := decide (wrap64 (m.f2 * b.f3) < wrap64 (b.f2 * m.f3)) || (decide (wrap64 (m.f2 * b.f3) = wrap64 (b.f2 * m.f3)) && decide (farV m.f0 m.f1 < farV b.f0 b.f1))
def takeB (b m : SM) : SM := if betterV m b = true then m else b
def stepB (s : SM) (m : SM) : SM := if s.f3 = 0 then m else takeB s m
theorem far_eq (a b : Int) : spec_l13Far.f a b = some (farV a b) := by
  have most : ∀ x y : Int, spec_l1Most.f x y = some (mx x y) := by
    intro x y
    unfold spec_l1Most.f mx
    by_cases h : x > y
    · rw [if_pos h, if_neg (by omega)]
    · rw [if_neg h]
      by_cases e : x < y
      · rw [if_pos e]
      · rw [if_neg e]
        exact congrArg some (by omega)
  unfold spec_l13Far.f farV
  simp only [most, Option.bind_some]
def isMatch (n : Int) (m : SM) : Prop := ¬ wrap64 (2 * m.f3) < n
theorem stepB_foldl (L : List SM) (hL : ∀ m ∈ L, 0 < m.f3) (a : SM) (ha : 0 < a.f3) : L.foldl stepB a = L.foldl takeB a ∧ 0 < (L.foldl takeB a).f3 := by
  induction L generalizing a with
  | nil => exact ⟨rfl, ha⟩
  | cons m L ih =>
    have hm := hL m (List.mem_cons_self ..)
    have e : stepB a m = takeB a m := by unfold stepB; rw [if_neg (by omega)]
    have h2 : 0 < (takeB a m).f3 := by unfold takeB; split; exact hm; exact ha
    rw [List.foldl_cons, List.foldl_cons, e]
    exact ih (fun x hx => hL x (List.mem_cons_of_mem _ hx)) _ h2
theorem wrongF_small (w h : Int) (l : List Int) (w2 h2 : Int) (l2 : List Int) (dr dc : Int) (hk : okChart w h l = true) : (wrongF w h l w2 h2 l2 dr dc).1.length ≤ 64 ∧ 0 ≤ (wrongF w h l w2 h2 l2 dr dc).2 ∧ (wrongF w h l w2 h2 l2 dr dc).2 ≤ 64 := by
  obtain ⟨_, hw, hh, _, _⟩ := okChart_iff w h l hk
  obtain ⟨o1, o2, o3, _⟩ := wrongF_ok w h l w2 h2 l2 dr dc
  have ob := Nat.mul_le_mul (show h.toNat ≤ 8 by omega) (show w.toNat ≤ 8 by omega)
  omega
def goodM (w h : Int) (l : List Int) (w2 h2 : Int) (l2 : List Int) (m : SM) : Prop := (-2 ≤ m.f0 ∧ m.f0 ≤ 2) ∧ (-2 ≤ m.f1 ∧ m.f1 ≤ 2) ∧ m = matchAt w h l w2 h2 l2 m.f0 m.f1 ∧ (0 ≤ m.f2 ∧ m.f2 ≤ 64) ∧ 0 < m.f3 ∧ m.f3 ≤ 64
def relG (w h : Int) (l : List Int) (w2 h2 : Int) (l2 : List Int) (s : SM) (L : List SM) (i : Nat) : Prop := s = L.foldl stepB ⟨0, 0, 0, 0⟩ ∧ L.length ≤ i ∧ ∀ m ∈ L, goodM w h l w2 h2 l2 m
theorem best_cell (w h : Int) (l : List Int) (w2 h2 : Int) (l2 : List Int) (hk : okChart w h l = true) (hk2 : okChart w2 h2 l2 = true) (dr dc : Int) (hdr : -2 ≤ dr ∧ dr ≤ 2) (hdc : -2 ≤ dc ∧ dc ≤ 2) (i : Nat) (hi : i ≤ 1000) (s : SM) (L : List SM) (hs : relG w h l w2 h2 l2 s L i) :
    ∃ (s' : SM) (L' : List SM), relG w h l w2 h2 l2 s' L' (i + 1) ∧ (∀ r, Ev (fun k => spec_BestShift.l1 k s'.f0 s'.f1 s'.f2 s'.f3 dr (dc + 1) w h l w2 h2 l2) r → Ev (fun k => spec_BestShift.l1 k s.f0 s.f1 s.f2 s.f3 dr dc w h l w2 h2 l2) r) ∧
      (∀ r, Ev (fun k => impl_matches.l1 k L' dr (dc + 1) w h l w2 h2 l2) r → Ev (fun k => impl_matches.l1 k L dr dc w h l w2 h2 l2) r) := by
  obtain ⟨_, hw, hh, hlen, h64⟩ := okChart_iff w h l hk
  have hpos : 0 < w * h := Int.mul_pos (by omega) (by omega)
  obtain ⟨hs1, hs2, hs3⟩ := hs
  obtain ⟨b1, b2, b3⟩ := wrongF_small w h l w2 h2 l2 dr dc hk
  have sp := specWrong_ev w h l w2 h2 l2 dr dc hk hk2 hdr hdc
  have im := implWrong_ev w h l w2 h2 l2 dr dc hk hk2 hdr hdc
  obtain ⟨m, hm⟩ : ∃ m, m = matchAt w h l w2 h2 l2 dr dc := ⟨_, rfl⟩
  have wd : wrap64 (dc + 1) = dc + 1 := wrap_id _ (by omega) (by omega)
  have w2x : wrap64 (2 * (wrongF w h l w2 h2 l2 dr dc).2) = 2 * (wrongF w h l w2 h2 l2 dr dc).2 := wrap_id _ (by omega) (by omega)
  by_cases hc : 2 * (wrongF w h l w2 h2 l2 dr dc).2 < (l.length : Int)
  · refine ⟨s, L, ⟨hs1, by omega, hs3⟩, fun r hr => ?_, fun r hr => ?_⟩
    · refine Ev.step (fun k => by rw [spec_BestShift.l1, if_pos (by omega)]) (Ev.bind sp ?_)
      simp only [w2x, if_pos hc, wd]
      exact hr
    · refine Ev.step (fun k => by rw [impl_matches.l1, if_pos (by omega)]) (Ev.bind im ?_)
      simp only [w2x, if_neg (show ¬ 2 * (wrongF w h l w2 h2 l2 dr dc).2 ≥ (l.length : Int) by omega), wd]
      exact hr
  · have hm3 : 0 < m.f3 := by rw [hm]; unfold matchAt; dsimp only; omega
    have hgood : goodM w h l w2 h2 l2 m := ⟨by rw [hm]; exact hdr, by rw [hm]; exact hdc, by rw [hm]; rfl, by rw [hm]; unfold matchAt; dsimp only; omega, hm3, by rw [hm]; unfold matchAt; dsimp only; omega⟩
    refine ⟨stepB s m, L ++ [m], ⟨by rw [List.foldl_append, ← hs1]; rfl, by simp; omega, fun x hx => ?_⟩, fun r hr => ?_, fun r hr => ?_⟩
    · rcases List.mem_append.1 hx with hx | hx
      · exact hs3 x hx
      · rw [List.mem_singleton.1 hx]; exact hgood
    · refine Ev.step (fun k => by rw [spec_BestShift.l1, if_pos (by omega)]) (Ev.bind sp ?_)
      simp only [w2x, if_neg hc, wd, far_eq, Option.bind_some]
      have m0 : m.f0 = dr := by rw [hm]; rfl
      have m1 : m.f1 = dc := by rw [hm]; rfl
      have m2 : m.f2 = ((wrongF w h l w2 h2 l2 dr dc).1.length : Int) := by rw [hm]; rfl
      have m3 : m.f3 = (wrongF w h l w2 h2 l2 dr dc).2 := by rw [hm]; rfl
      rw [← m2, ← m3, ← m0, ← m1]
      rw [← m0, ← m1] at hr
      unfold stepB takeB betterV at hr
      by_cases c0 : s.f3 = 0
      · simp only [if_pos c0] at hr ⊢
        exact hr
      · simp only [if_neg c0] at hr ⊢
        by_cases c1 : wrap64 (m.f2 * s.f3) < wrap64 (s.f2 * m.f3)
        · simp only [c1, decide_true, Bool.true_or, if_true] at hr ⊢
          exact hr
        · by_cases c2 : wrap64 (m.f2 * s.f3) = wrap64 (s.f2 * m.f3)
          · by_cases c3 : farV m.f0 m.f1 < farV s.f0 s.f1
            · simp only [c2, c3, decide_true, Bool.true_and, Bool.or_true, if_true, Int.lt_irrefl, if_false] at hr ⊢
              exact hr
            · simp only [c2, c3, decide_true, decide_false, Bool.true_and, Bool.or_false, if_true, Int.lt_irrefl, if_false, Bool.false_eq_true] at hr ⊢
              exact hr
          · simp only [c1, c2, decide_false, Bool.false_and, Bool.or_false, if_false, Bool.false_eq_true] at hr ⊢
            exact hr
    · refine Ev.step (fun k => by rw [impl_matches.l1, if_pos (by omega)]) (Ev.bind im ?_)
      simp only [w2x, if_pos (show 2 * (wrongF w h l w2 h2 l2 dr dc).2 ≥ (l.length : Int) by omega), if_pos (show L.length < 4398046511104 by omega), wd]
      rw [hm] at hr
      exact hr
theorem best_row (w h : Int) (l : List Int) (w2 h2 : Int) (l2 : List Int) (hk : okChart w h l = true) (hk2 : okChart w2 h2 l2 = true) (dr : Int) (hdr : -2 ≤ dr ∧ dr ≤ 2) (d j : Nat) (hj : j + d = 5) : ∀ (i : Nat) (hi : i + d ≤ 900) (s : SM) (L : List SM) (hs : relG w h l w2 h2 l2 s L i),
    ∃ (s' : SM) (L' : List SM), relG w h l w2 h2 l2 s' L' (i + d) ∧ (∀ r, Ev (fun k => spec_BestShift.l0 k s'.f0 s'.f1 s'.f2 s'.f3 (dr + 1) w h l w2 h2 l2) r → Ev (fun k => spec_BestShift.l1 k s.f0 s.f1 s.f2 s.f3 dr ((j : Int) - 2) w h l w2 h2 l2) r) ∧
      (∀ r, Ev (fun k => impl_matches.l0 k L' (dr + 1) w h l w2 h2 l2) r → Ev (fun k => impl_matches.l1 k L dr ((j : Int) - 2) w h l w2 h2 l2) r) := by
  have wd : wrap64 (dr + 1) = dr + 1 := wrap_id _ (by omega) (by omega)
  induction d generalizing j with
  | zero =>
    intro i hi s L hs
    exact ⟨s, L, hs, fun r hr => Ev.step (fun k => by rw [spec_BestShift.l1, if_neg (by omega), wd]) hr, fun r hr => Ev.step (fun k => by rw [impl_matches.l1, if_neg (by omega), wd]) hr⟩
  | succ d ih =>
    intro i hi s L hs
    obtain ⟨s1, L1, r1, a1, b1⟩ := best_cell w h l w2 h2 l2 hk hk2 dr ((j : Int) - 2) hdr (by omega) i (by omega) s L hs
    obtain ⟨s2, L2, r2, a2, b2⟩ := ih (j + 1) (by omega) (i + 1) (by omega) s1 L1 r1
    have e : ((j + 1 : Nat) : Int) - 2 = (j : Int) - 2 + 1 := by omega
    rw [e] at a2 b2
    exact ⟨s2, L2, by rw [show i + (d + 1) = i + 1 + d by omega]; exact r2, fun r hr => a1 r (a2 r hr), fun r hr => b1 r (b2 r hr)⟩
theorem best_all (w h : Int) (l : List Int) (w2 h2 : Int) (l2 : List Int) (hk : okChart w h l = true) (hk2 : okChart w2 h2 l2 = true) (d j : Nat) (hj : j + d = 5) : ∀ (i : Nat) (hi : i ≤ 5 * j) (s : SM) (L : List SM) (hs : relG w h l w2 h2 l2 s L i),
    ∃ (s' : SM) (L' : List SM), relG w h l w2 h2 l2 s' L' 100 ∧ Ev (fun k => spec_BestShift.l0 k s.f0 s.f1 s.f2 s.f3 ((j : Int) - 2) w h l w2 h2 l2) (s'.f0, s'.f1, decide (s'.f3 > 0)) ∧ Ev (fun k => impl_matches.l0 k L ((j : Int) - 2) w h l w2 h2 l2) L' := by
  induction d generalizing j with
  | zero =>
    intro i hi s L hs
    exact ⟨s, L, ⟨hs.1, by have := hs.2.1; omega, hs.2.2⟩, Ev.step (f := fun _ => some (s.f0, s.f1, decide (s.f3 > 0))) (fun k => by rw [spec_BestShift.l0, if_neg (by omega)]) (Ev.now _), Ev.step (f := fun _ => some L) (fun k => by rw [impl_matches.l0, if_neg (by omega)]) (Ev.now _)⟩
  | succ d ih =>
    intro i hi s L hs
    obtain ⟨s1, L1, r1, a1, b1⟩ := best_row w h l w2 h2 l2 hk hk2 ((j : Int) - 2) (by omega) 5 0 (by omega) i (by omega) s L hs
    obtain ⟨s2, L2, r2, a2, b2⟩ := ih (j + 1) (by omega) (i + 5) (by omega) s1 L1 r1
    have e : ((j + 1 : Nat) : Int) - 2 = (j : Int) - 2 + 1 := by omega
    rw [e] at a2 b2
    exact ⟨s2, L2, r2, Ev.step (fun k => by rw [spec_BestShift.l0, if_pos (by omega)]; rfl) (a1 _ a2), Ev.step (fun k => by rw [impl_matches.l0, if_pos (by omega)]; rfl) (b1 _ b2)⟩
theorem mul_small (a b : Int) (ha : 0 ≤ a ∧ a ≤ 100) (hb : 0 ≤ b ∧ b ≤ 64) : 0 ≤ a * b ∧ a * b ≤ 6400 := ⟨Int.mul_nonneg ha.1 hb.1, Int.mul_le_mul ha.2 hb.2 hb.1 (by decide)⟩
def leM (b x : SM) : Prop := b.f2 * x.f3 ≤ x.f2 * b.f3
def okM (m : SM) : Prop := (0 ≤ m.f2 ∧ m.f2 ≤ 64) ∧ 0 < m.f3 ∧ m.f3 ≤ 64
theorem leM_trans (b t x : SM) (hb : okM b) (ht : okM t) (hx : okM x) (h1 : leM b t) (h2 : leM t x) : leM b x := by
  unfold leM at *
  have a1 := Int.mul_le_mul_of_nonneg_right h1 (show 0 ≤ x.f3 by have := hx.2.1; omega)
  have a2 := Int.mul_le_mul_of_nonneg_right h2 (show 0 ≤ b.f3 by have := hb.2.1; omega)
  have e1 : b.f2 * t.f3 * x.f3 = b.f2 * x.f3 * t.f3 := by rw [Int.mul_assoc, Int.mul_comm t.f3, Int.mul_assoc]
  have e2 : t.f2 * b.f3 * x.f3 = t.f2 * x.f3 * b.f3 := by rw [Int.mul_assoc, Int.mul_comm b.f3, Int.mul_assoc]
  have e3 : x.f2 * t.f3 * b.f3 = x.f2 * b.f3 * t.f3 := by rw [Int.mul_assoc, Int.mul_comm t.f3, Int.mul_assoc]
  rw [e1, e2] at a1
  rw [e3] at a2
  exact Int.le_of_mul_le_mul_right (Int.le_trans a1 a2) ht.2.1
theorem takeB_le (a m : SM) (ha : okM a) (hm : okM m) : (takeB a m = a ∨ takeB a m = m) ∧ okM (takeB a m) ∧ leM (takeB a m) a ∧ leM (takeB a m) m := by
  have p1 := mul_small m.f2 a.f3 ⟨hm.1.1, by have := hm.1.2; omega⟩ ⟨by have := ha.2.1; omega, ha.2.2⟩
  have p2 := mul_small a.f2 m.f3 ⟨ha.1.1, by have := ha.1.2; omega⟩ ⟨by have := hm.2.1; omega, hm.2.2⟩
  unfold takeB betterV leM
  rw [wrap_id (m.f2 * a.f3) (by omega) (by omega), wrap_id (a.f2 * m.f3) (by omega) (by omega)]
  by_cases c1 : m.f2 * a.f3 < a.f2 * m.f3
  · rw [if_pos (by simp [c1])]
    exact ⟨.inr rfl, hm, by omega, Int.le_refl _⟩
  · by_cases c2 : m.f2 * a.f3 = a.f2 * m.f3
    · split
      · exact ⟨.inr rfl, hm, by omega, Int.le_refl _⟩
      · exact ⟨.inl rfl, ha, Int.le_refl _, by omega⟩
    · rw [if_neg (by simp [c1, c2])]
      exact ⟨.inl rfl, ha, Int.le_refl _, by omega⟩
theorem fold_best (L : List SM) : ∀ a : SM, okM a → (∀ m ∈ L, okM m) → (L.foldl takeB a) ∈ a :: L ∧ okM (L.foldl takeB a) ∧ ∀ x ∈ a :: L, leM (L.foldl takeB a) x := by
  induction L with
  | nil => intro a ha _; exact ⟨List.mem_singleton.2 rfl, ha, fun x hx => by rw [List.mem_singleton.1 hx]; exact Int.le_refl _⟩
  | cons m L ih =>
    intro a ha hL
    have hm := hL m (List.mem_cons_self ..)
    obtain ⟨t1, t2, t3, t4⟩ := takeB_le a m ha hm
    have hL' : ∀ y ∈ L, okM y := fun y hy => hL y (List.mem_cons_of_mem _ hy)
    obtain ⟨i1, i2, i3⟩ := ih (takeB a m) t2 hL'
    rw [List.foldl_cons]
    have i4 := i3 (takeB a m) (List.mem_cons_self ..)
    refine ⟨?_, i2, fun x hx => ?_⟩
    · rcases List.mem_cons.1 i1 with h | h
      · rw [h]
        rcases t1 with h | h
        · rw [h]; exact List.mem_cons_self ..
        · rw [h]; exact List.mem_cons_of_mem _ (List.mem_cons_self ..)
      · exact List.mem_cons_of_mem _ (List.mem_cons_of_mem _ h)
    · rcases List.mem_cons.1 hx with h | h
      · rw [h]; exact leM_trans _ _ _ i2 t2 ha i4 t3
      · rcases List.mem_cons.1 h with h | h
        · rw [h]; exact leM_trans _ _ _ i2 t2 hm i4 t4
        · exact i3 x (List.mem_cons_of_mem _ h)
def nearM (p : Int) (x : SM) : Bool := decide (wrap64 (100 * x.f2) ≤ wrap64 (p * x.f3))
theorem nearM_iff (p : Int) (hp : 0 ≤ p ∧ p ≤ 100) (x : SM) (hx : okM x) : nearM p x = true ↔ 100 * x.f2 ≤ p * x.f3 := by
  have p1 := mul_small p x.f3 hp ⟨by have := hx.2.1; omega, hx.2.2⟩
  have := hx.1
  unfold nearM
  rw [wrap_id (100 * x.f2) (by omega) (by omega), wrap_id (p * x.f3) (by omega) (by omega), decide_eq_true_iff]
theorem near_best (p : Int) (hp : 0 ≤ p ∧ p ≤ 100) (b x : SM) (hb : okM b) (hx : okM x) (h : leM b x) (hn : nearM p x = true) : nearM p b = true := by
  rw [nearM_iff p hp _ hb]
  rw [nearM_iff p hp _ hx] at hn
  have a1 := Int.mul_le_mul_of_nonneg_right hn (show 0 ≤ b.f3 by have := hb.2.1; omega)
  have a2 := Int.mul_le_mul_of_nonneg_left h (show (0 : Int) ≤ 100 by decide)
  have e1 : 100 * x.f2 * b.f3 = 100 * (x.f2 * b.f3) := Int.mul_assoc _ _ _
  have e2 : p * x.f3 * b.f3 = p * b.f3 * x.f3 := by rw [Int.mul_assoc, Int.mul_comm x.f3, Int.mul_assoc]
  have e3 : 100 * (b.f2 * x.f3) = 100 * b.f2 * x.f3 := (Int.mul_assoc _ _ _).symm
  rw [e1, e2] at a1
  rw [e3] at a2
  exact Int.le_of_mul_le_mul_right (Int.le_trans a2 a1) hx.2.1
theorem any_best (p : Int) (hp : 0 ≤ p ∧ p ≤ 100) (L : List SM) (m : SM) (hm : okM m) (hL : ∀ x ∈ L, okM x) : (m :: L).any (nearM p) = nearM p (L.foldl takeB m) := by
  obtain ⟨h1, h2, h3⟩ := fold_best L m hm hL
  rw [Bool.eq_iff_iff, List.any_eq_true]
  constructor
  · rintro ⟨x, hx, hn⟩
    exact near_best p hp _ x h2 (by
      rcases List.mem_cons.1 hx with h | h
      · rw [h]; exact hm
      · exact hL x h) (h3 x hx) hn
  · intro h
    exact ⟨_, h1, h⟩
theorem IsSamePiece_same (w h : Int) (l : List Int) (w2 h2 : Int) (l2 : List Int) (p : Int) (hl : l.length ≤ 2000000) (hl2 : l2.length ≤ 2000000) : ∃ r : Bool × Bool, Ev (fun k => spec_IsSamePiece.f k w h l w2 h2 l2 p) r ∧ Ev (fun k => impl_IsSamePiece.f k w h l w2 h2 l2 p) r := by
  unfold spec_IsSamePiece.f impl_IsSamePiece.f
  simp only [IsChart_eq, l1In_eq, in_eq, Option.bind_some]
  have no1 : Ev (fun k => spec_IsSamePiece.j0 k p true w h l w2 h2 l2) (false, false) := Ev.step (fun k => by rw [spec_IsSamePiece.j0, if_pos rfl]) (Ev.now _)
  cases hk : okChart w h l with
  | false =>
    refine ⟨(false, false), Ev.bind (l2Good_ev w h l hl) ?_, ?_⟩
    · simp only [hk, Bool.false_eq_true, if_false]; exact no1
    · simp only [Bool.false_eq_true, if_false]; exact Ev.now _
  | true =>
    cases hk2 : okChart w2 h2 l2 with
    | false =>
      refine ⟨(false, false), Ev.bind (l2Good_ev w h l hl) ?_, ?_⟩
      · simp only [hk, if_true]
        refine Ev.bind (l2Good_ev w2 h2 l2 hl2) ?_
        simp only [hk2, Bool.false_eq_true, if_false]
        exact no1
      · simp only [if_true, Bool.false_eq_true, if_false]; exact Ev.now _
    | true =>
      cases hc : rng p 0 100 with
      | false =>
        refine ⟨(false, false), Ev.bind (l2Good_ev w h l hl) ?_, ?_⟩
        · simp only [hk, if_true]
          refine Ev.bind (l2Good_ev w2 h2 l2 hl2) ?_
          simp only [hk2, if_true, Bool.not_false]
          exact no1
        · simp only [if_true, Bool.false_eq_true, if_false]; exact Ev.now _
      | true =>
        have hp := (rng_iff _ _ _).1 hc
        obtain ⟨s, L, ⟨hs, hL1, hL2⟩, a, b⟩ := best_all w h l w2 h2 l2 hk hk2 5 0 (by omega) 0 (by omega) ⟨0, 0, 0, 0⟩ [] ⟨rfl, Nat.zero_le _, fun m hm => by cases hm⟩
        have e : ((0 : Nat) : Int) - 2 = -2 := by omega
        rw [e] at a b
        have b' : Ev (fun k => impl_matches.f k w h l w2 h2 l2) L := b
        have sb : Ev (fun k => spec_BestShift.f k w h l w2 h2 l2) (s.f0, s.f1, decide (s.f3 > 0)) := by
          unfold spec_BestShift.f
          refine Ev.bind (l2Good_ev w h l hl) ?_
          simp only [hk, if_true]
          refine Ev.bind (l2Good_ev w2 h2 l2 hl2) ?_
          rw [hk2]
          exact Ev.step (fun k => by rw [spec_BestShift.j0, if_neg (by decide)]) a
        refine ⟨(L.any (nearM p), true), Ev.bind (l2Good_ev w h l hl) ?_, ?_⟩
        · simp only [hk, if_true]
          refine Ev.bind (l2Good_ev w2 h2 l2 hl2) ?_
          simp only [hk2, if_true, Bool.not_true]
          refine Ev.step (fun k => by rw [spec_IsSamePiece.j0, if_neg (by decide)]) (Ev.bind sb ?_)
          cases L with
          | nil =>
            rw [hs]
            exact Ev.now _
          | cons m L =>
            have e1 : stepB ⟨0, 0, 0, 0⟩ m = m := by unfold stepB; exact if_pos rfl
            have hok : ∀ x ∈ m :: L, okM x := fun x hx => ⟨(hL2 x hx).2.2.2.1, (hL2 x hx).2.2.2.2⟩
            obtain ⟨q1, q2⟩ := stepB_foldl L (fun x hx => (hok x (List.mem_cons_of_mem _ hx)).2.1) m (hok m (List.mem_cons_self ..)).2.1
            have e3 : s = L.foldl takeB m := by rw [hs, List.foldl_cons, e1, q1]
            have hany := any_best p hp L m (hok m (List.mem_cons_self ..)) (fun x hx => hok x (List.mem_cons_of_mem _ hx))
            have hmem := (fold_best L m (hok m (List.mem_cons_self ..)) (fun x hx => hok x (List.mem_cons_of_mem _ hx))).1
            rw [← e3] at hany q2 hmem
            obtain ⟨g1, g2, g3, _⟩ := hL2 s hmem
            rw [hany]
            have sp := specWrong_ev w h l w2 h2 l2 s.f0 s.f1 hk hk2 g1 g2
            have m2 : s.f2 = ((wrongF w h l w2 h2 l2 s.f0 s.f1).1.length : Int) := by
              have := congrArg (fun x : SM => x.f2) g3
              exact this
            have m3 : s.f3 = (wrongF w h l w2 h2 l2 s.f0 s.f1).2 := by
              have := congrArg (fun x : SM => x.f3) g3
              exact this
            dsimp only
            rw [decide_eq_true q2]
            simp only [if_true]
            refine Ev.bind sp ?_
            rw [← m2, ← m3]
            exact Ev.now _
        · simp only [if_true]
          exact Ev.bind b' (Ev.now _)
theorem eqInts_ev (t : List Int) (ht : t.length ≤ 2000000) : Ev (fun k => laws_eqIntS.f k t t) true := by
  refine Ev.congr (f := fun k => laws_eqIntS.l0 k t t 0) (fun k => by unfold laws_eqIntS.f; rw [if_pos rfl]) ?_
  obtain ⟨r, hr, h⟩ := Ev.loopE (fun k i (_ : Unit) => laws_eqIntS.l0 k t t i) t.length (fun _ _ => True) (fun r => r = true)
    (fun s _ => ⟨true, rfl, Ev.step (fun k => by rw [laws_eqIntS.l0, if_neg (by omega)]) (Ev.now true)⟩)
    (fun i s hi _ => ⟨(), trivial, fun r h => Ev.step (fun k => by
      rw [laws_eqIntS.l0, if_pos (by omega), if_pos (by omega), if_pos (by omega), if_pos rfl, wrap_id _ (by omega) (by omega)]) h⟩) () trivial
  subst hr
  exact h
theorem eqChart_ev (w h : Int) (t : List Int) (hl : t.length ≤ 2000000) : Ev (fun k => laws_eqChart.f k w h t w h t) true := by
  unfold laws_eqChart.f
  simp only [if_true]
  exact Ev.bind (eqInts_ev t hl) (by simp only [if_true]; exact Ev.now _)
theorem szChartN (w h : Int) (l : List Int) (n : Int) (hn0 : 0 ≤ n) (hn : n ≤ 1048576) (hm : l.length ≤ maxLen) : laws_szChart.f w h l n = some (if (l.length : Int) ≤ n then n - (l.length : Int) else -1) := by
  have hm' : l.length ≤ 9223372036854775807 := hm
  unfold laws_szChart.f laws_szIntS.f
  rw [wrap_id _ (by omega) (by omega)]
  by_cases h : (l.length : Int) ≤ n
  · rw [if_pos h, if_neg (by omega), Option.bind_some, if_neg (by omega)]
  · rw [if_neg h, if_pos (by omega)]
    rfl
theorem FnExactIsSamePiece (a0_0 : Int) (a0_1 : Int) (l0_2 : List (Int)) (a1_0 : Int) (a1_1 : Int) (l1_2 : List (Int)) (a2 : Int) (q_a0_0 : (Lit.int .i64 a0_0).wf = true) (q_a0_1 : (Lit.int .i64 a0_1).wf = true) (q_l0_2 : (l0_2.length ≤ maxLen ∧ ∀ q ∈ l0_2, (Lit.int .i64 q).wf = true)) (q_a1_0 : (Lit.int .i64 a1_0).wf = true) (q_a1_1 : (Lit.int .i64 a1_1).wf = true) (q_l1_2 : (l1_2.length ≤ maxLen ∧ ∀ q ∈ l1_2, (Lit.int .i64 q).wf = true)) (q_a2 : (Lit.int .i64 a2).wf = true) : ∃ k, laws_FnExactIsSamePiece.f k a0_0 a0_1 l0_2 a1_0 a1_1 l1_2 a2 = some true := by
  by_cases hl : (l0_2.length : Int) ≤ 1048576
  · by_cases hl2 : (l1_2.length : Int) ≤ 1048576 - (l0_2.length : Int)
    · obtain ⟨t, ht, K1, h1⟩ := toChart_ev a0_0 a0_1 l0_2 (by omega)
      obtain ⟨u, hu, K5, h5⟩ := toChart_ev a1_0 a1_1 l1_2 (by omega)
      obtain ⟨r, ⟨K2, h2⟩, K3, h3⟩ := IsSamePiece_same a0_0 a0_1 t a1_0 a1_1 u a2 (by omega) (by omega)
      obtain ⟨K4, h4⟩ := eqChart_ev a0_0 a0_1 t (by omega)
      obtain ⟨K6, h6⟩ := eqChart_ev a1_0 a1_1 u (by omega)
      obtain ⟨N, hN⟩ : ∃ N, N = K1 + K2 + K3 + K4 + K5 + K6 := ⟨_, rfl⟩
      replace h1 := fun j => h1 (N + j) (by omega)
      replace h2 := fun j => h2 (N + j) (by omega)
      replace h3 := fun j => h3 (N + j) (by omega)
      replace h4 := fun j => h4 (N + j) (by omega)
      replace h5 := fun j => h5 (N + j) (by omega)
      replace h6 := fun j => h6 (N + j) (by omega)
      dsimp only at h1 h2 h3 h4 h5 h6
      refine ⟨N + 4, ?_⟩
      unfold laws_FnExactIsSamePiece.f
      rw [szChartN _ _ _ _ (by omega) (by omega) q_l0_2.1, if_pos hl, Option.bind_some, if_neg (by omega), szChartN _ _ _ _ (by omega) (by omega) q_l1_2.1, if_pos hl2, Option.bind_some, if_neg (by omega)]
      simp only [h1, h2, h3, h4, h5, h6, laws_FnExactIsSamePiece.j0, Option.bind_some, if_true, if_false, bne_self_eq_false, Bool.false_eq_true]
    · refine ⟨0, ?_⟩
      unfold laws_FnExactIsSamePiece.f
      rw [szChartN _ _ _ _ (by omega) (by omega) q_l0_2.1, if_pos hl, Option.bind_some, if_neg (by omega), szChartN _ _ _ _ (by omega) (by omega) q_l1_2.1, if_neg hl2]
      rfl
  · refine ⟨0, ?_⟩
    unfold laws_FnExactIsSamePiece.f
    rw [szChartN _ _ _ _ (by omega) (by omega) q_l0_2.1, if_neg hl]
    rfl
end Go.Proofs.Ytcjalfgnnabghaa.Pure
