/- The plain law of FnShifts: what the program's functions compute is what the reference's compute. No program and no memory in it. -/
import Derived.Test.YtcjalfgnnabghaaZ08Hx40
import Derived.Test.YtcjalfgnnabghaaZ08Lps
namespace Go.Proofs.Ytcjalfgnnabghaa.Pure
open Go.RowKit Go.Proofs.YtcjalfgnnabghaaW.PrintWords Go.Proofs.YtcjalfgnnabghaaW.PrintLast Go.Proofs.Ytcjalfgnnabghaa.H
set_option linter.unusedVariables false
set_option linter.unusedSimpArgs false
theorem Ev.foldK {σ ρ : Type} (g : Nat → Int → σ → Option ρ) (n : Nat) (f : Nat → σ → σ) (Inv : Nat → σ → Prop) (r : ρ)
    (hstep : ∀ (i : Nat) s, i < n → Inv i s → Inv (i + 1) (f i s) ∧ (Ev (fun k => g k ((i : Int) + 1) (f i s)) r → Ev (fun k => g k (i : Int) s) r))
    (s : σ) (h0 : Inv 0 s) (hend : Ev (fun k => g k (n : Int) (loopN f n s)) r) : Ev (fun k => g k 0 s) r := by
  have key : ∀ i, i ≤ n → Inv i (loopN f i s) ∧ (Ev (fun k => g k (i : Int) (loopN f i s)) r → Ev (fun k => g k 0 s) r) := by
    intro i
    induction i with
    | zero => exact fun _ => ⟨h0, fun h => h⟩
    | succ i ih =>
      intro hi
      obtain ⟨h1, h2⟩ := ih (by omega)
      obtain ⟨h3, h4⟩ := hstep i _ (by omega) h1
      refine ⟨h3, fun h => h2 (h4 ?_)⟩
      have e : ((i + 1 : Nat) : Int) = (i : Int) + 1 := by omega
      rw [e] at h
      exact h
  exact (key n (Nat.le_refl _)).2 hend
theorem loopN_inv {σ : Type} (f : Nat → σ → σ) (Inv : Nat → σ → Prop) (n : Nat) (hstep : ∀ i s, i < n → Inv i s → Inv (i + 1) (f i s)) (s : σ) (h0 : Inv 0 s) : Inv n (loopN f n s) := by
  have key : ∀ i, i ≤ n → Inv i (loopN f i s) := by
    intro i
    induction i with
    | zero => exact fun _ => h0
    | succ i ih => exact fun hi => hstep i _ (by omega) (ih (by omega))
  exact key n (Nat.le_refl _)
theorem l1In_eq (a b c : Int) : spec_l1In.f a b c = some (rng a b c) := spec_l1In.eq a b c
theorem in_eq (a b c : Int) : impl_in.f a b c = some (rng a b c) := impl_in.eq a b c
theorem ext_getD {α : Type} (z : α) (a b : List α) (hl : a.length = b.length) (h : ∀ j, j < a.length → a.getD j z = b.getD j z) : a = b := by
  apply List.ext_getElem hl
  intro j h1 h2
  have := h j h1
  rwa [List.getD_eq_getElem?_getD, List.getD_eq_getElem?_getD, List.getElem?_eq_getElem h1, List.getElem?_eq_getElem h2] at this
theorem take_succ_getD {α : Type} (z : α) (a : List α) (i : Nat) (h : i < a.length) : a.take (i + 1) = a.take i ++ [a.getD i z] := by
  rw [List.take_succ_eq_append_getElem h, List.getD_eq_getElem?_getD, List.getElem?_eq_getElem h]
  rfl
def okChart (w h : Int) (l : List Int) : Bool := (l.all fun x => rng x 0 5) && (rng w 1 8 && (rng h 1 8 && ((l.length : Int) == wrap64 (w * h))))
theorem okChart_iff (w h : Int) (l : List Int) (hk : okChart w h l = true) : (∀ i, i < l.length → 0 ≤ l.getD i 0 ∧ l.getD i 0 ≤ 5) ∧ (1 ≤ w ∧ w ≤ 8) ∧ (1 ≤ h ∧ h ≤ 8) ∧ (l.length : Int) = w * h ∧ l.length ≤ 64 := by
  unfold okChart at hk
  simp only [Bool.and_eq_true, rng_iff, beq_iff_eq] at hk
  obtain ⟨h1, h2, h3, h4⟩ := hk
  have p0 : 0 ≤ w * h := Int.mul_nonneg (by omega) (by omega)
  have p1 : w * h ≤ 8 * 8 := Int.mul_le_mul h2.2 h3.2 (by omega) (by omega)
  rw [wrap_id _ (by omega) (by omega)] at h4
  refine ⟨fun i hi => ?_, h2, h3, h4, by omega⟩
  have := (all_getD 0 l _).1 h1 i hi
  exact (rng_iff _ _ _).1 this
theorem l2Good_ev (w h : Int) (l : List Int) (hl : l.length ≤ 2000000) : Ev (fun k => spec_l2Good.f k w h l) (okChart w h l) := by
  unfold spec_l2Good.f
  have e : okChart w h l = ((List.range l.length).all (fun i => rng (l.getD i 0) 0 5) && (rng w 1 8 && (rng h 1 8 && ((l.length : Int) == wrap64 (w * h))))) := by
    unfold okChart
    congr 1
    rw [Bool.eq_iff_iff, all_getD 0, all_range]
  rw [e]
  refine Ev.scan (fun k i => spec_l2Good.l0 k i w h l) l.length _ _ (Ev.step (f := fun _ => some _) (fun k => ?_) (Ev.now _)) ?_ ?_
  · rw [spec_l2Good.l0, if_neg (by omega)]
    unfold spec_l2Side.f
    simp only [l1In_eq, Option.bind_some]
    cases rng w 1 8 <;> cases rng h 1 8 <;> rfl
  · intro i hi hg
    refine Ev.step (f := fun _ => some false) (fun k => ?_) (Ev.now _)
    rw [spec_l2Good.l0, if_pos (by omega), if_pos (by omega)]
    unfold spec_l2Color.f
    have e0 : rd l (i : Int) = l.getD i 0 := rfl
    rw [l1In_eq, e0, hg]
    rfl
  · intro i r hi hg hr
    refine Ev.step (fun k => ?_) hr
    rw [spec_l2Good.l0, if_pos (by omega), if_pos (by omega)]
    unfold spec_l2Color.f
    have e0 : rd l (i : Int) = l.getD i 0 := rfl
    rw [l1In_eq, e0, hg, wrap_id _ (by omega) (by omega)]
    rfl
theorem IsChart_eq (w h : Int) (l : List Int) : impl_IsChart.f w h l = some (okChart w h l) := by
  unfold impl_IsChart.f impl_isSide.f areAll_impl_isColor.f okChart
  simp only [in_eq, Option.bind_some]
  by_cases e : (l.length : Int) = wrap64 (w * h)
  · rw [if_pos e, beq_iff_eq.2 e]
    cases rng w 1 8 <;> cases rng h 1 8 <;> simp
  · rw [if_neg e, beq_eq_false_iff_ne.2 e]
    cases rng w 1 8 <;> cases rng h 1 8 <;> simp
theorem hasPlace_eq (w h : Int) (l : List Int) (hk : okChart w h l = true) (r c : Int) : impl_Chart_hasPlace.f w h l r c = some (rng r 0 (h - 1) && rng c 0 (w - 1)) := by
  obtain ⟨_, hw, hh, hlen, h64⟩ := okChart_iff w h l hk
  unfold impl_Chart_hasPlace.f
  simp only [in_eq, Option.bind_some]
  rw [wrap_id (h - 1) (by omega) (by omega), wrap_id (w - 1) (by omega) (by omega)]
  cases rng r 0 (h - 1) <;> rfl
theorem at_idx (w h : Int) (l : List Int) (hk : okChart w h l = true) (r c : Int) (hr : 0 ≤ r ∧ r ≤ h - 1) (hc : 0 ≤ c ∧ c ≤ w - 1) : 0 ≤ r * w + c ∧ r * w + c < (l.length : Int) ∧ 0 ≤ r * w ∧ r * w ≤ 64 := by
  obtain ⟨_, hw, hh, hlen, h64⟩ := okChart_iff w h l hk
  have a : 0 ≤ r * w := Int.mul_nonneg hr.1 (by omega)
  have b : r * w ≤ (h - 1) * w := Int.mul_le_mul_of_nonneg_right hr.2 (by omega)
  rw [Int.sub_mul, Int.one_mul, Int.mul_comm h w] at b
  omega
theorem implAt_eq (w h : Int) (l : List Int) (hk : okChart w h l = true) (r c : Int) (hr : 0 ≤ r ∧ r ≤ h - 1) (hc : 0 ≤ c ∧ c ≤ w - 1) : impl_Chart_at.f w h l r c = some (rd l (r * w + c)) := by
  obtain ⟨h1, h2, h3, h4⟩ := at_idx w h l hk r c hr hc
  obtain ⟨_, hw, hh, hlen, h64⟩ := okChart_iff w h l hk
  unfold impl_Chart_at.f
  rw [wrap_id (r * w) (by omega) (by omega), wrap_id (r * w + c) (by omega) (by omega), if_pos h1, if_pos h2]
theorem specAt_eq (w h : Int) (l : List Int) (hk : okChart w h l = true) (r c : Int) (hr : 0 ≤ r ∧ r ≤ h - 1) (hc : 0 ≤ c ∧ c ≤ w - 1) : spec_l2At.f w h l r c = some (rd l (r * w + c)) := by
  obtain ⟨h1, h2, h3, h4⟩ := at_idx w h l hk r c hr hc
  obtain ⟨_, hw, hh, hlen, h64⟩ := okChart_iff w h l hk
  unfold spec_l2At.f
  rw [wrap_id (r * w) (by omega) (by omega), wrap_id (r * w + c) (by omega) (by omega), if_pos h1, if_pos h2]
theorem within_ev (w h : Int) (l : List Int) (hk : okChart w h l = true) (r c : Int) : Ev (fun k => spec_l2Within.f k w h l r c) (rng r 0 (h - 1) && rng c 0 (w - 1)) := by
  obtain ⟨_, hw, hh, hlen, h64⟩ := okChart_iff w h l hk
  unfold spec_l2Within.f
  refine Ev.bind (l2Good_ev w h l (by omega)) ?_
  simp only [hk, if_true, l1In_eq, Option.bind_some]
  rw [wrap_id (h - 1) (by omega) (by omega), wrap_id (w - 1) (by omega) (by omega)]
  cases rng r 0 (h - 1) <;> exact Ev.now _
abbrev SP := S79
def cellF (w : Int) (l : List Int) (w2 h2 : Int) (l2 : List Int) (dr dc : Int) (r c : Nat) (s : List SP × Int) : List SP × Int :=
  if (rng ((r : Int) + dr) 0 (h2 - 1) && rng ((c : Int) + dc) 0 (w2 - 1)) = true then (if rd l ((r : Int) * w + (c : Int)) = rd l2 (((r : Int) + dr) * w2 + ((c : Int) + dc)) then (s.1, s.2 + 1) else (s.1 ++ [⟨(r : Int), (c : Int)⟩], s.2 + 1)) else s
def rowF (w : Int) (l : List Int) (w2 h2 : Int) (l2 : List Int) (dr dc : Int) (r : Nat) (s : List SP × Int) : List SP × Int := loopN (cellF w l w2 h2 l2 dr dc r) w.toNat s
def wrongF (w h : Int) (l : List Int) (w2 h2 : Int) (l2 : List Int) (dr dc : Int) : List SP × Int := loopN (rowF w l w2 h2 l2 dr dc) h.toNat ([], 0)
def okW (h : Int) (b : Nat) (s : List SP × Int) : Prop := s.1.length ≤ b ∧ 0 ≤ s.2 ∧ s.2 ≤ (b : Int) ∧ ∀ x ∈ s.1, 0 ≤ x.f0 ∧ x.f0 < h
theorem cellF_ok (w h : Int) (l : List Int) (w2 h2 : Int) (l2 : List Int) (dr dc : Int) (r c b : Nat) (hr : (r : Int) < h) (s : List SP × Int) (hs : okW h b s) : okW h (b + 1) (cellF w l w2 h2 l2 dr dc r c s) := by
  obtain ⟨h1, h3, h4, h5⟩ := hs
  unfold cellF
  split
  · split
    · exact ⟨by dsimp only; omega, by dsimp only; omega, by dsimp only; omega, h5⟩
    · refine ⟨by simp; omega, by dsimp only; omega, by dsimp only; omega, fun x hx => ?_⟩
      rcases List.mem_append.1 hx with hx | hx
      · exact h5 x hx
      · rw [List.mem_singleton.1 hx]
        exact ⟨Int.natCast_nonneg _, hr⟩
  · exact ⟨by omega, h3, by omega, h5⟩
theorem rowF_ok (w h : Int) (l : List Int) (w2 h2 : Int) (l2 : List Int) (dr dc : Int) (r b : Nat) (hr : (r : Int) < h) (s : List SP × Int) (hs : okW h b s) : okW h (b + w.toNat) (rowF w l w2 h2 l2 dr dc r s) :=
  loopN_inv _ (fun i s => okW h (b + i) s) w.toNat (fun i s _ hs => cellF_ok w h l w2 h2 l2 dr dc r i (b + i) hr s hs) s hs
theorem wrongF_ok (w h : Int) (l : List Int) (w2 h2 : Int) (l2 : List Int) (dr dc : Int) : okW h (h.toNat * w.toNat) (wrongF w h l w2 h2 l2 dr dc) := by
  have := loopN_inv (rowF w l w2 h2 l2 dr dc) (fun i s => okW h (i * w.toNat) s) h.toNat (fun i s hi hs => by
    rw [Nat.succ_mul]
    exact rowF_ok w h l w2 h2 l2 dr dc i _ (by omega) s hs) ([], 0) ⟨by simp, by simp, by simp, fun x hx => by cases hx⟩
  exact this
theorem specWrong_row (w h : Int) (l : List Int) (w2 h2 : Int) (l2 : List Int) (dr dc : Int) (hk : okChart w h l = true) (hk2 : okChart w2 h2 l2 = true) (hdr : -2 ≤ dr ∧ dr ≤ 2) (hdc : -2 ≤ dc ∧ dc ≤ 2) (r : Nat) (hr : (r : Int) < h) (b : Nat) (hb : b ≤ 100) (s : List SP × Int) (hs : okW h b s) (v : List SP × Int)
    (hv : Ev (fun k => spec_l13Wrong.l0 k dr dc (rowF w l w2 h2 l2 dr dc r s).1 (rowF w l w2 h2 l2 dr dc r s).2 ((r : Int) + 1) w h l w2 h2 l2) v) : Ev (fun k => spec_l13Wrong.l1 k dr dc s.1 s.2 (r : Int) 0 w h l w2 h2 l2) v := by
  obtain ⟨_, hw, hh, hlen, h64⟩ := okChart_iff w h l hk
  refine Ev.foldK (fun k i (s : List SP × Int) => spec_l13Wrong.l1 k dr dc s.1 s.2 (r : Int) i w h l w2 h2 l2) w.toNat (cellF w l w2 h2 l2 dr dc r) (fun i s => okW h (b + i) s) v (fun c s hc hs => ⟨cellF_ok w h l w2 h2 l2 dr dc r c (b + c) hr s hs, fun h1 => ?_⟩) s hs ?_
  · obtain ⟨q1, q3, q4, _⟩ := hs
    refine Ev.step (f := fun k => (spec_l2Within.f k w2 h2 l2 ((r : Int) + dr) ((c : Int) + dc)).bind _) (fun k => by rw [spec_l13Wrong.l1, if_pos (by omega), wrap_id ((r : Int) + dr) (by omega) (by omega), wrap_id ((c : Int) + dc) (by omega) (by omega)]) ?_
    refine Ev.bind (within_ev w2 h2 l2 hk2 _ _) ?_
    unfold cellF at h1
    by_cases hin : (rng ((r : Int) + dr) 0 (h2 - 1) && rng ((c : Int) + dc) 0 (w2 - 1)) = true
    · have hin2 := hin
      rw [Bool.and_eq_true, rng_iff, rng_iff] at hin2
      rw [if_pos hin] at h1
      simp only [hin, if_true]
      rw [specAt_eq w h l hk (r : Int) (c : Int) (by omega) (by omega), specAt_eq w2 h2 l2 hk2 _ _ hin2.1 hin2.2]
      simp only [Option.bind_some]
      rw [wrap_id (s.2 + 1) (by omega) (by omega), wrap_id ((c : Int) + 1) (by omega) (by omega)]
      by_cases he : rd l ((r : Int) * w + (c : Int)) = rd l2 (((r : Int) + dr) * w2 + ((c : Int) + dc))
      · rw [if_pos he] at h1
        simp only [if_pos he]
        exact h1
      · rw [if_neg he] at h1
        simp only [if_neg he, if_pos (show s.1.length < 8796093022208 by omega)]
        exact h1
    · rw [if_neg hin] at h1
      simp only [if_neg hin]
      rw [wrap_id ((c : Int) + 1) (by omega) (by omega)]
      exact h1
  · refine Ev.step (fun k => ?_) hv
    rw [spec_l13Wrong.l1, if_neg (by omega), wrap_id _ (by omega) (by omega)]
    rfl
theorem specWrong_ev (w h : Int) (l : List Int) (w2 h2 : Int) (l2 : List Int) (dr dc : Int) (hk : okChart w h l = true) (hk2 : okChart w2 h2 l2 = true) (hdr : -2 ≤ dr ∧ dr ≤ 2) (hdc : -2 ≤ dc ∧ dc ≤ 2) : Ev (fun k => spec_l13Wrong.f k w h l w2 h2 l2 dr dc) (wrongF w h l w2 h2 l2 dr dc) := by
  obtain ⟨_, hw, hh, hlen, h64⟩ := okChart_iff w h l hk
  unfold spec_l13Wrong.f
  refine Ev.foldK (fun k i (s : List SP × Int) => spec_l13Wrong.l0 k dr dc s.1 s.2 i w h l w2 h2 l2) h.toNat (rowF w l w2 h2 l2 dr dc) (fun i s => okW h (i * w.toNat) s) _ (fun r s hr hs => ⟨?_, fun h1 => ?_⟩) ([], 0) ⟨by simp, by simp, by simp, fun x hx => by cases hx⟩ ?_
  · rw [Nat.succ_mul]
    exact rowF_ok w h l w2 h2 l2 dr dc r _ (by omega) s hs
  · refine Ev.step (fun k => by rw [spec_l13Wrong.l0, if_pos (by omega)]) (specWrong_row w h l w2 h2 l2 dr dc hk hk2 hdr hdc r (by omega) (r * w.toNat) ?_ s hs _ h1)
    have := Nat.mul_le_mul (show r ≤ 8 by omega) (show w.toNat ≤ 8 by omega)
    omega
  · refine Ev.step (f := fun _ => some (wrongF w h l w2 h2 l2 dr dc)) (fun k => ?_) (Ev.now _)
    rw [spec_l13Wrong.l0, if_neg (by omega)]
    rfl
theorem implWrong_row (w h : Int) (l : List Int) (w2 h2 : Int) (l2 : List Int) (dr dc : Int) (hk : okChart w h l = true) (hk2 : okChart w2 h2 l2 = true) (hdr : -2 ≤ dr ∧ dr ≤ 2) (hdc : -2 ≤ dc ∧ dc ≤ 2) (r : Nat) (hr : (r : Int) < h) (b : Nat) (hb : b ≤ 100) (s : List SP × Int) (hs : okW h b s) (v : List SP × Int)
    (hv : Ev (fun k => impl_wrong.l0 k dr dc (rowF w l w2 h2 l2 dr dc r s).1 (rowF w l w2 h2 l2 dr dc r s).2 h ((r : Int) + 1) w h l w2 h2 l2) v) : Ev (fun k => impl_wrong.l1 k dr dc s.1 s.2 (r : Int) h (r : Int) w 0 w h l w2 h2 l2) v := by
  obtain ⟨_, hw, hh, hlen, h64⟩ := okChart_iff w h l hk
  refine Ev.foldK (fun k i (s : List SP × Int) => impl_wrong.l1 k dr dc s.1 s.2 (r : Int) h (r : Int) w i w h l w2 h2 l2) w.toNat (cellF w l w2 h2 l2 dr dc r) (fun i s => okW h (b + i) s) v (fun c s hc hs => ⟨cellF_ok w h l w2 h2 l2 dr dc r c (b + c) hr s hs, fun h1 => ?_⟩) s hs ?_
  · obtain ⟨q1, q3, q4, _⟩ := hs
    refine Ev.step (f := fun k => impl_wrong.l1 k dr dc (cellF w l w2 h2 l2 dr dc r c s).1 (cellF w l w2 h2 l2 dr dc r c s).2 (r : Int) h (r : Int) w ((c : Int) + 1) w h l w2 h2 l2) (fun k => ?_) h1
    rw [impl_wrong.l1, if_pos (by omega), wrap_id ((r : Int) + dr) (by omega) (by omega), wrap_id ((c : Int) + dc) (by omega) (by omega), hasPlace_eq w2 h2 l2 hk2, Option.bind_some]
    unfold cellF
    by_cases hin : (rng ((r : Int) + dr) 0 (h2 - 1) && rng ((c : Int) + dc) 0 (w2 - 1)) = true
    · have hin2 := hin
      rw [Bool.and_eq_true, rng_iff, rng_iff] at hin2
      rw [if_pos hin, if_pos hin, implAt_eq w h l hk (r : Int) (c : Int) (by omega) (by omega), implAt_eq w2 h2 l2 hk2 _ _ hin2.1 hin2.2, Option.bind_some, Option.bind_some, wrap_id (s.2 + 1) (by omega) (by omega), wrap_id ((c : Int) + 1) (by omega) (by omega)]
      by_cases he : rd l ((r : Int) * w + (c : Int)) = rd l2 (((r : Int) + dr) * w2 + ((c : Int) + dc))
      · rw [if_pos he, if_pos he]
      · rw [if_neg he, if_neg he, if_pos (by omega)]
    · rw [if_neg hin, if_neg hin, wrap_id ((c : Int) + 1) (by omega) (by omega)]
  · refine Ev.step (fun k => ?_) hv
    rw [impl_wrong.l1, if_neg (by omega), wrap_id _ (by omega) (by omega)]
    rfl
theorem implWrong_ev (w h : Int) (l : List Int) (w2 h2 : Int) (l2 : List Int) (dr dc : Int) (hk : okChart w h l = true) (hk2 : okChart w2 h2 l2 = true) (hdr : -2 ≤ dr ∧ dr ≤ 2) (hdc : -2 ≤ dc ∧ dc ≤ 2) : Ev (fun k => impl_wrong.f k w h l w2 h2 l2 dr dc) (wrongF w h l w2 h2 l2 dr dc) := by
  obtain ⟨_, hw, hh, hlen, h64⟩ := okChart_iff w h l hk
  unfold impl_wrong.f
  refine Ev.foldK (fun k i (s : List SP × Int) => impl_wrong.l0 k dr dc s.1 s.2 h i w h l w2 h2 l2) h.toNat (rowF w l w2 h2 l2 dr dc) (fun i s => okW h (i * w.toNat) s) _ (fun r s hr hs => ⟨?_, fun h1 => ?_⟩) ([], 0) ⟨by simp, by simp, by simp, fun x hx => by cases hx⟩ ?_
  · rw [Nat.succ_mul]
    exact rowF_ok w h l w2 h2 l2 dr dc r _ (by omega) s hs
  · refine Ev.step (fun k => by rw [impl_wrong.l0, if_pos (by omega)]) (implWrong_row w h l w2 h2 l2 dr dc hk hk2 hdr hdc r (by omega) (r * w.toNat) ?_ s hs _ h1)
    have := Nat.mul_le_mul (show r ≤ 8 by omega) (show w.toNat ≤ 8 by omega)
    omega
  · refine Ev.step (f := fun _ => some (wrongF w h l w2 h2 l2 dr dc)) (fun k => ?_) (Ev.now _)
    rw [impl_wrong.l0, if_neg (by omega)]
    rfl
abbrev SM := S82
def matchAt (w h : Int) (l : List Int) (w2 h2 : Int) (l2 : List Int) (dr dc : Int) : SM := ⟨dr, dc, ((wrongF w h l w2 h2 l2 dr dc).1.length : Int), (wrongF w h l w2 h2 l2 dr dc).2⟩
def farV (a b : Int) : Int := wrap64 (mx a (wrap64 (-a)) + mx b (wrap64 (-b)))
def betterV (m b : SM) : Bool := decide (wrap64 (m.f2 * b.f3) < wrap64 (b.f2 * m.f3)) || (decide (wrap64 (m.f2 * b.f3) = wrap64 (b.f2 * m.f3)) && decide (farV m.f0 m.f1 < farV b.f0 b.f1))
def takeB (b m : SM) : SM := if betterV m b = true then m else b
def stepB (s : SM) (m : SM) : SM := if s.f3 = 0 then m else takeB s m
theorem far_eq (a b : Int) : spec_l13Far.f a b = some (farV a b) := by
  have most : ∀ x y : Int, spec_l1Most.f x y = some (mx x y) := by
    intro x y
    unfold spec_l1Most.f mx
    by_cases h : x > y
    · rw [if_pos h, if_neg (by omega)]
    · rw [if_neg h]
      by_cases e : x < y
      · rw [if_pos e]
      · rw [if_neg e]
        exact congrArg some (by omega)
  unfold spec_l13Far.f farV
  simp only [most, Option.bind_some]
theorem stepB_foldl (L : List SM) (hL : ∀ m ∈ L, 0 < m.f3) (a : SM) (ha : 0 < a.f3) : L.foldl stepB a = L.foldl takeB a ∧ 0 < (L.foldl takeB a).f3 := by
  induction L generalizing a with
  | nil => exact ⟨rfl, ha⟩
  | cons m L ih =>
    have hm := hL m (List.mem_cons_self ..)
    have e : stepB a m = takeB a m := by unfold stepB; rw [if_neg (by omega)]
    have h2 : 0 < (takeB a m).f3 := by unfold takeB; split; exact hm; exact ha
    rw [List.foldl_cons, List.foldl_cons, e]
    exact ih (fun x hx => hL x (List.mem_cons_of_mem _ hx)) _ h2
theorem wrongF_small (w h : Int) (l : List Int) (w2 h2 : Int) (l2 : List Int) (dr dc : Int) (hk : okChart w h l = true) : (wrongF w h l w2 h2 l2 dr dc).1.length ≤ 64 ∧ 0 ≤ (wrongF w h l w2 h2 l2 dr dc).2 ∧ (wrongF w h l w2 h2 l2 dr dc).2 ≤ 64 := by
  obtain ⟨_, hw, hh, _, _⟩ := okChart_iff w h l hk
  obtain ⟨o1, o2, o3, _⟩ := wrongF_ok w h l w2 h2 l2 dr dc
  have ob := Nat.mul_le_mul (show h.toNat ≤ 8 by omega) (show w.toNat ≤ 8 by omega)
  omega
def goodM (w h : Int) (l : List Int) (w2 h2 : Int) (l2 : List Int) (m : SM) : Prop := (-2 ≤ m.f0 ∧ m.f0 ≤ 2) ∧ (-2 ≤ m.f1 ∧ m.f1 ≤ 2) ∧ m = matchAt w h l w2 h2 l2 m.f0 m.f1 ∧ (0 ≤ m.f2 ∧ m.f2 ≤ 64) ∧ 0 < m.f3 ∧ m.f3 ≤ 64 ∧ (l.length : Int) ≤ 2 * m.f3
def suitM (w h : Int) (l : List Int) (w2 h2 : Int) (l2 : List Int) (dr dc : Int) : Prop := (l.length : Int) ≤ 2 * (wrongF w h l w2 h2 l2 dr dc).2
def relG (w h : Int) (l : List Int) (w2 h2 : Int) (l2 : List Int) (s : SM) (L : List SM) (i : Nat) : Prop := s = L.foldl stepB ⟨0, 0, 0, 0⟩ ∧ L.length ≤ i ∧ ∀ m ∈ L, goodM w h l w2 h2 l2 m
theorem best_cell (w h : Int) (l : List Int) (w2 h2 : Int) (l2 : List Int) (hk : okChart w h l = true) (hk2 : okChart w2 h2 l2 = true) (dr dc : Int) (hdr : -2 ≤ dr ∧ dr ≤ 2) (hdc : -2 ≤ dc ∧ dc ≤ 2) (i : Nat) (hi : i ≤ 1000) (s : SM) (L : List SM) (hs : relG w h l w2 h2 l2 s L i) :
    ∃ (s' : SM) (L' : List SM), relG w h l w2 h2 l2 s' L' (i + 1) ∧ (∀ r, Ev (fun k => spec_BestShift.l1 k s'.f0 s'.f1 s'.f2 s'.f3 dr (dc + 1) w h l w2 h2 l2) r → Ev (fun k => spec_BestShift.l1 k s.f0 s.f1 s.f2 s.f3 dr dc w h l w2 h2 l2) r) ∧
      (∀ r, Ev (fun k => impl_matches.l1 k L' dr (dc + 1) w h l w2 h2 l2) r → Ev (fun k => impl_matches.l1 k L dr dc w h l w2 h2 l2) r) ∧ (∀ x ∈ L, x ∈ L') ∧ (suitM w h l w2 h2 l2 dr dc → matchAt w h l w2 h2 l2 dr dc ∈ L') := by
  obtain ⟨_, hw, hh, hlen, h64⟩ := okChart_iff w h l hk
  have hpos : 0 < w * h := Int.mul_pos (by omega) (by omega)
  obtain ⟨hs1, hs2, hs3⟩ := hs
  obtain ⟨b1, b2, b3⟩ := wrongF_small w h l w2 h2 l2 dr dc hk
  have sp := specWrong_ev w h l w2 h2 l2 dr dc hk hk2 hdr hdc
  have im := implWrong_ev w h l w2 h2 l2 dr dc hk hk2 hdr hdc
  obtain ⟨m, hm⟩ : ∃ m, m = matchAt w h l w2 h2 l2 dr dc := ⟨_, rfl⟩
  have wd : wrap64 (dc + 1) = dc + 1 := wrap_id _ (by omega) (by omega)
  have w2x : wrap64 (2 * (wrongF w h l w2 h2 l2 dr dc).2) = 2 * (wrongF w h l w2 h2 l2 dr dc).2 := wrap_id _ (by omega) (by omega)
  by_cases hc : 2 * (wrongF w h l w2 h2 l2 dr dc).2 < (l.length : Int)
  · refine ⟨s, L, ⟨hs1, by omega, hs3⟩, fun r hr => ?_, fun r hr => ?_, fun x hx => hx, fun hu => by unfold suitM at hu; omega⟩
    · refine Ev.step (fun k => by rw [spec_BestShift.l1, if_pos (by omega)]) (Ev.bind sp ?_)
      simp only [w2x, if_pos hc, wd]
      exact hr
    · refine Ev.step (fun k => by rw [impl_matches.l1, if_pos (by omega)]) (Ev.bind im ?_)
      simp only [w2x, if_neg (show ¬ 2 * (wrongF w h l w2 h2 l2 dr dc).2 ≥ (l.length : Int) by omega), wd]
      exact hr
  · have hm3 : 0 < m.f3 := by rw [hm]; unfold matchAt; dsimp only; omega
    have hgood : goodM w h l w2 h2 l2 m := ⟨by rw [hm]; exact hdr, by rw [hm]; exact hdc, by rw [hm]; rfl, by rw [hm]; unfold matchAt; dsimp only; omega, hm3, by rw [hm]; unfold matchAt; dsimp only; omega, by rw [hm]; unfold matchAt; dsimp only; omega⟩
    refine ⟨stepB s m, L ++ [m], ⟨by rw [List.foldl_append, ← hs1]; rfl, by simp; omega, fun x hx => ?_⟩, fun r hr => ?_, fun r hr => ?_, fun x hx => List.mem_append.2 (.inl hx), fun _ => List.mem_append.2 (.inr (List.mem_singleton.2 hm.symm))⟩
    · rcases List.mem_append.1 hx with hx | hx
      · exact hs3 x hx
      · rw [List.mem_singleton.1 hx]; exact hgood
    · refine Ev.step (fun k => by rw [spec_BestShift.l1, if_pos (by omega)]) (Ev.bind sp ?_)
      simp only [w2x, if_neg hc, wd, far_eq, Option.bind_some]
      have m0 : m.f0 = dr := by rw [hm]; rfl
      have m1 : m.f1 = dc := by rw [hm]; rfl
      have m2 : m.f2 = ((wrongF w h l w2 h2 l2 dr dc).1.length : Int) := by rw [hm]; rfl
      have m3 : m.f3 = (wrongF w h l w2 h2 l2 dr dc).2 := by rw [hm]; rfl
      rw [← m2, ← m3, ← m0, ← m1]
      rw [← m0, ← m1] at hr
      unfold stepB takeB betterV at hr
      by_cases c0 : s.f3 = 0
      · simp only [if_pos c0] at hr ⊢
        exact hr
      · simp only [if_neg c0] at hr ⊢
        by_cases c1 : wrap64 (m.f2 * s.f3) < wrap64 (s.f2 * m.f3)
        · simp only [c1, decide_true, Bool.true_or, if_true] at hr ⊢
          exact hr
        · by_cases c2 : wrap64 (m.f2 * s.f3) = wrap64 (s.f2 * m.f3)
          · by_cases c3 : farV m.f0 m.f1 < farV s.f0 s.f1
            · simp only [c2, c3, decide_true, Bool.true_and, Bool.or_true, if_true, Int.lt_irrefl, if_false] at hr ⊢
              exact hr
            · simp only [c2, c3, decide_true, decide_false, Bool.true_and, Bool.or_false, if_true, Int.lt_irrefl, if_false, Bool.false_eq_true] at hr ⊢
              exact hr
          · simp only [c1, c2, decide_false, Bool.false_and, Bool.or_false, if_false, Bool.false_eq_true] at hr ⊢
            exact hr
    · refine Ev.step (fun k => by rw [impl_matches.l1, if_pos (by omega)]) (Ev.bind im ?_)
      simp only [w2x, if_pos (show 2 * (wrongF w h l w2 h2 l2 dr dc).2 ≥ (l.length : Int) by omega), if_pos (show L.length < 4398046511104 by omega), wd]
      rw [hm] at hr
      exact hr
theorem best_row (w h : Int) (l : List Int) (w2 h2 : Int) (l2 : List Int) (hk : okChart w h l = true) (hk2 : okChart w2 h2 l2 = true) (dr : Int) (hdr : -2 ≤ dr ∧ dr ≤ 2) (d j : Nat) (hj : j + d = 5) : ∀ (i : Nat) (hi : i + d ≤ 900) (s : SM) (L : List SM) (hs : relG w h l w2 h2 l2 s L i),
    ∃ (s' : SM) (L' : List SM), relG w h l w2 h2 l2 s' L' (i + d) ∧ (∀ r, Ev (fun k => spec_BestShift.l0 k s'.f0 s'.f1 s'.f2 s'.f3 (dr + 1) w h l w2 h2 l2) r → Ev (fun k => spec_BestShift.l1 k s.f0 s.f1 s.f2 s.f3 dr ((j : Int) - 2) w h l w2 h2 l2) r) ∧
      (∀ r, Ev (fun k => impl_matches.l0 k L' (dr + 1) w h l w2 h2 l2) r → Ev (fun k => impl_matches.l1 k L dr ((j : Int) - 2) w h l w2 h2 l2) r) ∧ (∀ x ∈ L, x ∈ L') ∧ (∀ c : Int, (j : Int) - 2 ≤ c → c ≤ 2 → suitM w h l w2 h2 l2 dr c → matchAt w h l w2 h2 l2 dr c ∈ L') := by
  have wd : wrap64 (dr + 1) = dr + 1 := wrap_id _ (by omega) (by omega)
  induction d generalizing j with
  | zero =>
    intro i hi s L hs
    exact ⟨s, L, hs, fun r hr => Ev.step (fun k => by rw [spec_BestShift.l1, if_neg (by omega), wd]) hr, fun r hr => Ev.step (fun k => by rw [impl_matches.l1, if_neg (by omega), wd]) hr, fun x hx => hx, fun c h1 h2 => by omega⟩
  | succ d ih =>
    intro i hi s L hs
    obtain ⟨s1, L1, r1, a1, b1, c1, d1⟩ := best_cell w h l w2 h2 l2 hk hk2 dr ((j : Int) - 2) hdr (by omega) i (by omega) s L hs
    obtain ⟨s2, L2, r2, a2, b2, c2, d2⟩ := ih (j + 1) (by omega) (i + 1) (by omega) s1 L1 r1
    have e : ((j + 1 : Nat) : Int) - 2 = (j : Int) - 2 + 1 := by omega
    rw [e] at a2 b2
    exact ⟨s2, L2, by rw [show i + (d + 1) = i + 1 + d by omega]; exact r2, fun r hr => a1 r (a2 r hr), fun r hr => b1 r (b2 r hr), fun x hx => c2 x (c1 x hx), fun c h1 h2 h3 => by
      by_cases ec : c = (j : Int) - 2
      · subst ec; exact c2 _ (d1 h3)
      · exact d2 c (by omega) h2 h3⟩
theorem best_all (w h : Int) (l : List Int) (w2 h2 : Int) (l2 : List Int) (hk : okChart w h l = true) (hk2 : okChart w2 h2 l2 = true) (d j : Nat) (hj : j + d = 5) : ∀ (i : Nat) (hi : i ≤ 5 * j) (s : SM) (L : List SM) (hs : relG w h l w2 h2 l2 s L i),
    ∃ (s' : SM) (L' : List SM), relG w h l w2 h2 l2 s' L' 100 ∧ Ev (fun k => spec_BestShift.l0 k s.f0 s.f1 s.f2 s.f3 ((j : Int) - 2) w h l w2 h2 l2) (s'.f0, s'.f1, decide (s'.f3 > 0)) ∧ Ev (fun k => impl_matches.l0 k L ((j : Int) - 2) w h l w2 h2 l2) L' ∧ (∀ x ∈ L, x ∈ L') ∧ (∀ b c : Int, (j : Int) - 2 ≤ b → b ≤ 2 → -2 ≤ c → c ≤ 2 → suitM w h l w2 h2 l2 b c → matchAt w h l w2 h2 l2 b c ∈ L') := by
  induction d generalizing j with
  | zero =>
    intro i hi s L hs
    exact ⟨s, L, ⟨hs.1, by have := hs.2.1; omega, hs.2.2⟩, Ev.step (f := fun _ => some (s.f0, s.f1, decide (s.f3 > 0))) (fun k => by rw [spec_BestShift.l0, if_neg (by omega)]) (Ev.now _), Ev.step (f := fun _ => some L) (fun k => by rw [impl_matches.l0, if_neg (by omega)]) (Ev.now _), fun x hx => hx, fun b c h1 h2 => by omega⟩
  | succ d ih =>
    intro i hi s L hs
    obtain ⟨s1, L1, r1, a1, b1, c1, d1⟩ := best_row w h l w2 h2 l2 hk hk2 ((j : Int) - 2) (by omega) 5 0 (by omega) i (by omega) s L hs
    obtain ⟨s2, L2, r2, a2, b2, c2, d2⟩ := ih (j + 1) (by omega) (i + 5) (by omega) s1 L1 r1
    have e : ((j + 1 : Nat) : Int) - 2 = (j : Int) - 2 + 1 := by omega
    rw [e] at a2 b2
    exact ⟨s2, L2, r2, Ev.step (fun k => by rw [spec_BestShift.l0, if_pos (by omega)]; rfl) (a1 _ a2), Ev.step (fun k => by rw [impl_matches.l0, if_pos (by omega)]; rfl) (b1 _ b2), fun x hx => c2 x (c1 x hx), fun b c h1 h2 h3 h4 h5 => by
      by_cases ec : b = (j : Int) - 2
      · subst ec; exact c2 _ (d1 c (by omega) h4 h5)
      · exact d2 b c (by omega) h2 h3 h4 h5⟩
theorem mul_small (a b : Int) (ha : 0 ≤ a ∧ a ≤ 100) (hb : 0 ≤ b ∧ b ≤ 64) : 0 ≤ a * b ∧ a * b ≤ 6400 := ⟨Int.mul_nonneg ha.1 hb.1, Int.mul_le_mul ha.2 hb.2 hb.1 (by decide)⟩
def leM (b x : SM) : Prop := b.f2 * x.f3 ≤ x.f2 * b.f3
def okM (m : SM) : Prop := (0 ≤ m.f2 ∧ m.f2 ≤ 64) ∧ 0 < m.f3 ∧ m.f3 ≤ 64
theorem leM_trans (b t x : SM) (hb : okM b) (ht : okM t) (hx : okM x) (h1 : leM b t) (h2 : leM t x) : leM b x := by
  unfold leM at *
  have a1 := Int.mul_le_mul_of_nonneg_right h1 (show 0 ≤ x.f3 by have := hx.2.1; omega)
  have a2 := Int.mul_le_mul_of_nonneg_right h2 (show 0 ≤ b.f3 by have := hb.2.1; omega)
  have e1 : b.f2 * t.f3 * x.f3 = b.f2 * x.f3 * t.f3 := by rw [Int.mul_assoc, Int.mul_comm t.f3, Int.mul_assoc]
  have e2 : t.f2 * b.f3 * x.f3 = t.f2 * x.f3 * b.f3 := by rw [Int.mul_assoc, Int.mul_comm b.f3, Int.mul_assoc]
  have e3 : x.f2 * t.f3 * b.f3 = x.f2 * b.f3 * t.f3 := by rw [Int.mul_assoc, Int.mul_comm t.f3, Int.mul_assoc]
  rw [e1, e2] at a1
  rw [e3] at a2
  exact Int.le_of_mul_le_mul_right (Int.le_trans a1 a2) ht.2.1
theorem takeB_le (a m : SM) (ha : okM a) (hm : okM m) : (takeB a m = a ∨ takeB a m = m) ∧ okM (takeB a m) ∧ leM (takeB a m) a ∧ leM (takeB a m) m := by
  have p1 := mul_small m.f2 a.f3 ⟨hm.1.1, by have := hm.1.2; omega⟩ ⟨by have := ha.2.1; omega, ha.2.2⟩
  have p2 := mul_small a.f2 m.f3 ⟨ha.1.1, by have := ha.1.2; omega⟩ ⟨by have := hm.2.1; omega, hm.2.2⟩
  unfold takeB betterV leM
  rw [wrap_id (m.f2 * a.f3) (by omega) (by omega), wrap_id (a.f2 * m.f3) (by omega) (by omega)]
  by_cases c1 : m.f2 * a.f3 < a.f2 * m.f3
  · rw [if_pos (by simp [c1])]
    exact ⟨.inr rfl, hm, by omega, Int.le_refl _⟩
  · by_cases c2 : m.f2 * a.f3 = a.f2 * m.f3
    · split
      · exact ⟨.inr rfl, hm, by omega, Int.le_refl _⟩
      · exact ⟨.inl rfl, ha, Int.le_refl _, by omega⟩
    · rw [if_neg (by simp [c1, c2])]
      exact ⟨.inl rfl, ha, Int.le_refl _, by omega⟩
theorem fold_best (L : List SM) : ∀ a : SM, okM a → (∀ m ∈ L, okM m) → (L.foldl takeB a) ∈ a :: L ∧ okM (L.foldl takeB a) ∧ ∀ x ∈ a :: L, leM (L.foldl takeB a) x := by
  induction L with
  | nil => intro a ha _; exact ⟨List.mem_singleton.2 rfl, ha, fun x hx => by rw [List.mem_singleton.1 hx]; exact Int.le_refl _⟩
  | cons m L ih =>
    intro a ha hL
    have hm := hL m (List.mem_cons_self ..)
    obtain ⟨t1, t2, t3, t4⟩ := takeB_le a m ha hm
    have hL' : ∀ y ∈ L, okM y := fun y hy => hL y (List.mem_cons_of_mem _ hy)
    obtain ⟨i1, i2, i3⟩ := ih (takeB a m) t2 hL'
    rw [List.foldl_cons]
    have i4 := i3 (takeB a m) (List.mem_cons_self ..)
    refine ⟨?_, i2, fun x hx => ?_⟩
    · rcases List.mem_cons.1 i1 with h | h
      · rw [h]
        rcases t1 with h | h
        · rw [h]; exact List.mem_cons_self ..
        · rw [h]; exact List.mem_cons_of_mem _ (List.mem_cons_self ..)
      · exact List.mem_cons_of_mem _ (List.mem_cons_of_mem _ h)
    · rcases List.mem_cons.1 hx with h | h
      · rw [h]; exact leM_trans _ _ _ i2 t2 ha i4 t3
      · rcases List.mem_cons.1 h with h | h
        · rw [h]; exact leM_trans _ _ _ i2 t2 hm i4 t4
        · exact i3 x (List.mem_cons_of_mem _ h)
theorem isBetter_eq (m b : SM) : impl_match_isBetter.f m.f0 m.f1 m.f2 m.f3 b.f0 b.f1 b.f2 b.f3 = some (betterV m b) := by
  unfold impl_match_isBetter.f impl_abs.f betterV farV
  simp only [Option.bind_some]
  by_cases h1 : wrap64 (m.f2 * b.f3) < wrap64 (b.f2 * m.f3)
  · simp [h1]
  · rw [if_neg h1]
    by_cases h2 : wrap64 (m.f2 * b.f3) = wrap64 (b.f2 * m.f3)
    · rw [if_pos h2]; simp [h2]
    · rw [if_neg h2]; simp [h1, h2]
theorem pick_ev (L : List SM) (hl : L.length ≤ 1000) (h0 : 0 < L.length) : Ev (fun k => impl_BestShift.l0 k L (L.length : Int) 0 (L.getD 0 z82).f0 (L.getD 0 z82).f1 (L.getD 0 z82).f2 (L.getD 0 z82).f3) ((L.foldl takeB (L.getD 0 z82)).f0, (L.foldl takeB (L.getD 0 z82)).f1, true) := by
  obtain ⟨r, hr, h⟩ := Ev.loopE (fun k i (b : SM) => impl_BestShift.l0 k L (L.length : Int) i b.f0 b.f1 b.f2 b.f3) L.length (fun i b => b = (L.take i).foldl takeB (L.getD 0 z82)) (fun r => r = ((L.foldl takeB (L.getD 0 z82)).f0, (L.foldl takeB (L.getD 0 z82)).f1, true))
    (fun b hb => ⟨(b.f0, b.f1, true), by rw [hb, List.take_length], Ev.step (fun k => by rw [impl_BestShift.l0, if_neg (by omega)]) (Ev.now _)⟩)
    (fun i b hi hb => by
      have e0 : rd_T82 L (i : Int) = L.getD i z82 := rfl
      refine ⟨takeB b (L.getD i z82), by rw [take_succ_getD z82 L i hi, List.foldl_append, ← hb]; rfl, fun r h => Ev.step (fun k => ?_) h⟩
      rw [impl_BestShift.l0, if_pos (by omega), if_pos (by omega), if_pos (by omega), e0, isBetter_eq, Option.bind_some, wrap_id _ (by omega) (by omega)]
      unfold takeB
      by_cases hq : betterV (L.getD i z82) b = true
      · rw [if_pos hq, if_pos hq]
      · rw [if_neg hq, if_neg hq]) (L.getD 0 z82) rfl
  subst hr
  exact h
theorem BestShift_all (w h : Int) (l : List Int) (w2 h2 : Int) (l2 : List Int) (hl : l.length ≤ 2000000) (hl2 : l2.length ≤ 2000000) : ∃ (a b : Int) (ok : Bool), Ev (fun k => spec_BestShift.f k w h l w2 h2 l2) (a, b, ok) ∧ Ev (fun k => impl_BestShift.f k w h l w2 h2 l2) (a, b, ok) ∧
    (ok = true → okChart w h l = true ∧ okChart w2 h2 l2 = true ∧ (-2 ≤ a ∧ a ≤ 2) ∧ (-2 ≤ b ∧ b ≤ 2) ∧ suitM w h l w2 h2 l2 a b ∧ okM (matchAt w h l w2 h2 l2 a b) ∧ ∀ x y : Int, -2 ≤ x → x ≤ 2 → -2 ≤ y → y ≤ 2 → suitM w h l w2 h2 l2 x y → leM (matchAt w h l w2 h2 l2 a b) (matchAt w h l w2 h2 l2 x y)) := by
  unfold spec_BestShift.f impl_BestShift.f
  simp only [IsChart_eq, Option.bind_some]
  have no1 : Ev (fun k => spec_BestShift.j0 k true w h l w2 h2 l2) (0, 0, false) := Ev.step (fun k => by rw [spec_BestShift.j0, if_pos rfl]) (Ev.now _)
  have no2 : Ev (fun k => impl_BestShift.j0 k true w h l w2 h2 l2) (0, 0, false) := Ev.step (fun k => by rw [impl_BestShift.j0, if_pos rfl]) (Ev.now _)
  cases hk : okChart w h l with
  | false =>
    refine ⟨0, 0, false, Ev.bind (l2Good_ev w h l hl) ?_, ?_, fun h => by cases h⟩
    · simp only [hk, Bool.false_eq_true, if_false]; exact no1
    · simp only [Bool.false_eq_true, if_false]; exact no2
  | true =>
    cases hk2 : okChart w2 h2 l2 with
    | false =>
      refine ⟨0, 0, false, Ev.bind (l2Good_ev w h l hl) ?_, ?_, fun h => by cases h⟩
      · simp only [hk, if_true]
        refine Ev.bind (l2Good_ev w2 h2 l2 hl2) ?_
        rw [hk2]
        exact no1
      · simp only [if_true, Bool.not_false]; exact no2
    | true =>
      obtain ⟨s, L, ⟨hs, hL1, hL2⟩, a, b, _, hall⟩ := best_all w h l w2 h2 l2 hk hk2 5 0 (by omega) 0 (by omega) ⟨0, 0, 0, 0⟩ [] ⟨rfl, Nat.zero_le _, fun m hm => by cases hm⟩
      have e : ((0 : Nat) : Int) - 2 = -2 := by omega
      rw [e] at a b
      refine ⟨s.f0, s.f1, decide (s.f3 > 0), Ev.bind (l2Good_ev w h l hl) ?_, ?_, ?_⟩
      · simp only [hk, if_true]
        refine Ev.bind (l2Good_ev w2 h2 l2 hl2) ?_
        rw [hk2]
        exact Ev.step (fun k => by rw [spec_BestShift.j0, if_neg (by decide)]) a
      · simp only [if_true, Bool.not_true]
        have b' : Ev (fun k => impl_matches.f k w h l w2 h2 l2) L := b
        refine Ev.step (fun k => by rw [impl_BestShift.j0, if_neg (by decide)]) (Ev.bind b' ?_)
        cases L with
        | nil =>
          rw [hs]
          exact Ev.now _
        | cons m L =>
          have hp := pick_ev (m :: L) (by omega) (by simp)
          have hok : ∀ x ∈ m :: L, 0 < x.f3 := fun x hx => (hL2 x hx).2.2.2.2.1
          have e1 : stepB ⟨0, 0, 0, 0⟩ m = m := by unfold stepB; exact if_pos rfl
          have e2 : takeB m m = m := by unfold takeB; split <;> rfl
          obtain ⟨q1, q2⟩ := stepB_foldl L (fun x hx => hok x (List.mem_cons_of_mem _ hx)) m (hok m (List.mem_cons_self ..))
          have e3 : s = L.foldl takeB m := by rw [hs, List.foldl_cons, e1, q1]
          have e4 : (m :: L).getD 0 z82 = m := rfl
          rw [e4, List.foldl_cons, e2, ← e3] at hp
          rw [← e3] at q2
          rw [decide_eq_true q2]
          have c1 : ¬ (((m :: L).length : Nat) : Int) = 0 := by simp; omega
          have c2 : (0 : Int) < (((m :: L).length : Nat) : Int) := by simp
          simp only [if_neg c1, if_pos c2]
          exact hp
      · intro hpos
        have hpos := of_decide_eq_true hpos
        cases L with
        | nil => rw [hs] at hpos; exact absurd hpos (by decide)
        | cons m L =>
          have hok : ∀ x ∈ m :: L, okM x := fun x hx => ⟨(hL2 x hx).2.2.2.1, (hL2 x hx).2.2.2.2.1, (hL2 x hx).2.2.2.2.2.1⟩
          have e1 : stepB ⟨0, 0, 0, 0⟩ m = m := by unfold stepB; exact if_pos rfl
          obtain ⟨q1, q2⟩ := stepB_foldl L (fun x hx => (hok x (List.mem_cons_of_mem _ hx)).2.1) m (hok m (List.mem_cons_self ..)).2.1
          have e3 : s = L.foldl takeB m := by rw [hs, List.foldl_cons, e1, q1]
          obtain ⟨f1, f2, f3⟩ := fold_best L m (hok m (List.mem_cons_self ..)) (fun x hx => hok x (List.mem_cons_of_mem _ hx))
          rw [← e3] at f1 f2 f3
          obtain ⟨g1, g2, g3, g4, g5, g6, g7⟩ := hL2 s f1
          rw [← g3]
          refine ⟨rfl, rfl, g1, g2, ?_, f2, fun x y x1 x2 y1 y2 hu => f3 _ (hall x y (by omega) x2 y1 y2 hu)⟩
          have m3 : s.f3 = (wrongF w h l w2 h2 l2 s.f0 s.f1).2 := by
            have := congrArg (fun x : SM => x.f3) g3
            exact this
          unfold suitM
          rw [← m3]
          exact g7
def nearM (p : Int) (x : SM) : Bool := decide (wrap64 (100 * x.f2) ≤ wrap64 (p * x.f3))
theorem nearM_iff (p : Int) (hp : 0 ≤ p ∧ p ≤ 100) (x : SM) (hx : okM x) : nearM p x = true ↔ 100 * x.f2 ≤ p * x.f3 := by
  have p1 := mul_small p x.f3 hp ⟨by have := hx.2.1; omega, hx.2.2⟩
  have := hx.1
  unfold nearM
  rw [wrap_id (100 * x.f2) (by omega) (by omega), wrap_id (p * x.f3) (by omega) (by omega), decide_eq_true_iff]
theorem near_best (p : Int) (hp : 0 ≤ p ∧ p ≤ 100) (b x : SM) (hb : okM b) (hx : okM x) (h : leM b x) (hn : nearM p x = true) : nearM p b = true := by
  rw [nearM_iff p hp _ hb]
  rw [nearM_iff p hp _ hx] at hn
  have a1 := Int.mul_le_mul_of_nonneg_right hn (show 0 ≤ b.f3 by have := hb.2.1; omega)
  have a2 := Int.mul_le_mul_of_nonneg_left h (show (0 : Int) ≤ 100 by decide)
  have e1 : 100 * x.f2 * b.f3 = 100 * (x.f2 * b.f3) := Int.mul_assoc _ _ _
  have e2 : p * x.f3 * b.f3 = p * b.f3 * x.f3 := by rw [Int.mul_assoc, Int.mul_comm x.f3, Int.mul_assoc]
  have e3 : 100 * (b.f2 * x.f3) = 100 * b.f2 * x.f3 := (Int.mul_assoc _ _ _).symm
  rw [e1, e2] at a1
  rw [e3] at a2
  exact Int.le_of_mul_le_mul_right (Int.le_trans a2 a1) hx.2.1
theorem any_best (p : Int) (hp : 0 ≤ p ∧ p ≤ 100) (L : List SM) (m : SM) (hm : okM m) (hL : ∀ x ∈ L, okM x) : (m :: L).any (nearM p) = nearM p (L.foldl takeB m) := by
  obtain ⟨h1, h2, h3⟩ := fold_best L m hm hL
  rw [Bool.eq_iff_iff, List.any_eq_true]
  constructor
  · rintro ⟨x, hx, hn⟩
    exact near_best p hp _ x h2 (by
      rcases List.mem_cons.1 hx with h | h
      · rw [h]; exact hm
      · exact hL x h) (h3 x hx) hn
  · intro h
    exact ⟨_, h1, h⟩
theorem IsSamePiece_same (w h : Int) (l : List Int) (w2 h2 : Int) (l2 : List Int) (p : Int) (hl : l.length ≤ 2000000) (hl2 : l2.length ≤ 2000000) : ∃ r : Bool × Bool, Ev (fun k => spec_IsSamePiece.f k w h l w2 h2 l2 p) r ∧ Ev (fun k => impl_IsSamePiece.f k w h l w2 h2 l2 p) r := by
  unfold spec_IsSamePiece.f impl_IsSamePiece.f
  simp only [IsChart_eq, l1In_eq, in_eq, Option.bind_some]
  have no1 : Ev (fun k => spec_IsSamePiece.j0 k p true w h l w2 h2 l2) (false, false) := Ev.step (fun k => by rw [spec_IsSamePiece.j0, if_pos rfl]) (Ev.now _)
  cases hk : okChart w h l with
  | false =>
    refine ⟨(false, false), Ev.bind (l2Good_ev w h l hl) ?_, ?_⟩
    · simp only [hk, Bool.false_eq_true, if_false]; exact no1
    · simp only [Bool.false_eq_true, if_false]; exact Ev.now _
  | true =>
    cases hk2 : okChart w2 h2 l2 with
    | false =>
      refine ⟨(false, false), Ev.bind (l2Good_ev w h l hl) ?_, ?_⟩
      · simp only [hk, if_true]
        refine Ev.bind (l2Good_ev w2 h2 l2 hl2) ?_
        simp only [hk2, Bool.false_eq_true, if_false]
        exact no1
      · simp only [if_true, Bool.false_eq_true, if_false]; exact Ev.now _
    | true =>
      cases hc : rng p 0 100 with
      | false =>
        refine ⟨(false, false), Ev.bind (l2Good_ev w h l hl) ?_, ?_⟩
        · simp only [hk, if_true]
          refine Ev.bind (l2Good_ev w2 h2 l2 hl2) ?_
          simp only [hk2, if_true, Bool.not_false]
          exact no1
        · simp only [if_true, Bool.false_eq_true, if_false]; exact Ev.now _
      | true =>
        have hp := (rng_iff _ _ _).1 hc
        obtain ⟨s, L, ⟨hs, hL1, hL2⟩, a, b, _⟩ := best_all w h l w2 h2 l2 hk hk2 5 0 (by omega) 0 (by omega) ⟨0, 0, 0, 0⟩ [] ⟨rfl, Nat.zero_le _, fun m hm => by cases hm⟩
        have e : ((0 : Nat) : Int) - 2 = -2 := by omega
        rw [e] at a b
        have b' : Ev (fun k => impl_matches.f k w h l w2 h2 l2) L := b
        have sb : Ev (fun k => spec_BestShift.f k w h l w2 h2 l2) (s.f0, s.f1, decide (s.f3 > 0)) := by
          unfold spec_BestShift.f
          refine Ev.bind (l2Good_ev w h l hl) ?_
          simp only [hk, if_true]
          refine Ev.bind (l2Good_ev w2 h2 l2 hl2) ?_
          rw [hk2]
          exact Ev.step (fun k => by rw [spec_BestShift.j0, if_neg (by decide)]) a
        refine ⟨(L.any (nearM p), true), Ev.bind (l2Good_ev w h l hl) ?_, ?_⟩
        · simp only [hk, if_true]
          refine Ev.bind (l2Good_ev w2 h2 l2 hl2) ?_
          simp only [hk2, if_true, Bool.not_true]
          refine Ev.step (fun k => by rw [spec_IsSamePiece.j0, if_neg (by decide)]) (Ev.bind sb ?_)
          cases L with
          | nil =>
            rw [hs]
            exact Ev.now _
          | cons m L =>
            have e1 : stepB ⟨0, 0, 0, 0⟩ m = m := by unfold stepB; exact if_pos rfl
            have hok : ∀ x ∈ m :: L, okM x := fun x hx => ⟨(hL2 x hx).2.2.2.1, (hL2 x hx).2.2.2.2.1, (hL2 x hx).2.2.2.2.2.1⟩
            obtain ⟨q1, q2⟩ := stepB_foldl L (fun x hx => (hok x (List.mem_cons_of_mem _ hx)).2.1) m (hok m (List.mem_cons_self ..)).2.1
            have e3 : s = L.foldl takeB m := by rw [hs, List.foldl_cons, e1, q1]
            have hany := any_best p hp L m (hok m (List.mem_cons_self ..)) (fun x hx => hok x (List.mem_cons_of_mem _ hx))
            have hmem := (fold_best L m (hok m (List.mem_cons_self ..)) (fun x hx => hok x (List.mem_cons_of_mem _ hx))).1
            rw [← e3] at hany q2 hmem
            obtain ⟨g1, g2, g3, _⟩ := hL2 s hmem
            rw [hany]
            have sp := specWrong_ev w h l w2 h2 l2 s.f0 s.f1 hk hk2 g1 g2
            have m2 : s.f2 = ((wrongF w h l w2 h2 l2 s.f0 s.f1).1.length : Int) := by
              have := congrArg (fun x : SM => x.f2) g3
              exact this
            have m3 : s.f3 = (wrongF w h l w2 h2 l2 s.f0 s.f1).2 := by
              have := congrArg (fun x : SM => x.f3) g3
              exact this
            dsimp only
            rw [decide_eq_true q2]
            simp only [if_true]
            refine Ev.bind sp ?_
            rw [← m2, ← m3]
            exact Ev.now _
        · simp only [if_true]
          exact Ev.bind b' (Ev.now _)
theorem low8 (y : Int) : 0 ≤ Go.bits .and .u64 y 255 ∧ Go.bits .and .u64 y 255 ≤ 255 := by
  have h : ((BitVec.ofInt 64 y) &&& (BitVec.ofInt 64 255)).toNat ≤ 255 := by
    rw [BitVec.toNat_and]
    exact Nat.le_trans Nat.and_le_right (by decide)
  have e : Go.bits .and .u64 y 255 = IntKind.u64.wrap ((((BitVec.ofInt 64 y) &&& (BitVec.ofInt 64 255)).toNat : Nat) : Int) := rfl
  have e2 : ∀ n : Nat, n ≤ 255 → IntKind.u64.wrap (n : Int) = (n : Int) := fun n hn => by
    show (n : Int) % 18446744073709551616 = (n : Int)
    omega
  rw [e, e2 _ h]
  omega
def codeOk (code : List Int) : Prop := code.length ≤ 70000 ∧ ∀ i : Int, 0 ≤ rd code i ∧ rd code i ≤ 255
theorem codeOk_of (code : List Int) (hl : code.length ≤ 70000) (h : ∀ x ∈ code, (Lit.int .u8 x).wf = true) : codeOk code := by
  refine ⟨hl, fun i => ?_⟩
  unfold rd
  rw [List.getD_eq_getElem?_getD]
  by_cases c : i.toNat < code.length
  · rw [List.getElem?_eq_getElem c]
    have := h _ (List.getElem_mem c)
    have h3 : (decide (IntKind.u8.min ≤ code[i.toNat]) && decide (code[i.toNat] ≤ IntKind.u8.max)) = true := this
    rw [Bool.and_eq_true, decide_eq_true_iff, decide_eq_true_iff, show IntKind.u8.min = 0 by decide, show IntKind.u8.max = 255 by decide] at h3
    exact h3
  · rw [List.getElem?_eq_none (by omega)]
    exact ⟨by decide, by decide⟩
theorem next_ok (code : List Int) (hc : codeOk code) (at_ seed : Int) (h0 : 0 ≤ at_) (h1 : at_ ≤ 1000000) : ∃ x s, spec_l1Cur_next.f code at_ seed = some (x, at_ + 1, s) ∧ 0 ≤ x ∧ x ≤ 255 := by
  have hw : wrap64 (at_ + 1) = at_ + 1 := wrap_id _ (by omega) (by omega)
  have hb := hc.2 at_
  unfold spec_l1Cur_next.f
  rw [hw]
  by_cases c : at_ < (code.length : Int)
  · rw [if_pos c, if_pos h0, if_pos (by omega)]
    exact ⟨_, _, rfl, by rw [wrap_id _ (by omega) (by omega)]; exact hb⟩
  · rw [if_neg c, if_neg (by omega)]
    refine ⟨_, _, rfl, ?_⟩
    have := low8 ((IntKind.u64.wrap ((IntKind.u64.wrap ((IntKind.u64.wrap (seed * 6364136223846793005)))) + 102323)) / 1099511627776)
    rw [wrap_id _ (by omega) (by omega)]
    exact this
theorem pick_ok (code : List Int) (hc : codeOk code) (at_ seed n : Int) (h0 : 0 ≤ at_) (h1 : at_ ≤ 900000) (hn : n ≤ 1000000) : ∃ x a s, spec_l1Cur_pick.f code at_ seed n = some (x, a, s) ∧ 0 ≤ x ∧ (x < n ∨ x = 0) ∧ at_ ≤ a ∧ a ≤ at_ + 2 := by
  unfold spec_l1Cur_pick.f
  by_cases c : n ≤ 1
  · exact ⟨0, at_, seed, by rw [if_pos c], by omega, .inr rfl, by omega, by omega⟩
  · rw [if_neg c]
    obtain ⟨x, s, e, x0, x1⟩ := next_ok code hc at_ seed h0 (by omega)
    rw [e, Option.bind_some]
    dsimp only
    by_cases c2 : n > 200
    · rw [if_pos c2]
      obtain ⟨y, s2, e2, y0, y1⟩ := next_ok code hc (at_ + 1) s (by omega) (by omega)
      rw [e2, Option.bind_some, if_neg (by omega)]
      dsimp only
      rw [wrap_id (x * 256) (by omega) (by omega), wrap_id (x * 256 + y) (by omega) (by omega)]
      exact ⟨_, _, _, rfl, Int.tmod_nonneg _ (by omega), .inl (Int.tmod_lt_of_pos _ (by omega)), by omega, by omega⟩
    · rw [if_neg c2, if_neg (by omega)]
      exact ⟨_, _, _, rfl, Int.tmod_nonneg _ x0, .inl (Int.tmod_lt_of_pos _ (by omega)), by omega, by omega⟩
theorem among_ok (code : List Int) (hc : codeOk code) (at_ seed : Int) (l : List Int) (hl : 0 < l.length ∧ l.length ≤ 1000) (h0 : 0 ≤ at_) (h1 : at_ ≤ 900000) : ∃ x a s, spec_l1Cur_among.f code at_ seed l = some (x, a, s) ∧ x ∈ l ∧ at_ ≤ a ∧ a ≤ at_ + 2 := by
  unfold spec_l1Cur_among.f
  obtain ⟨x, a, s, e, x0, x1, a0, a1⟩ := pick_ok code hc at_ seed (l.length : Int) h0 h1 (by omega)
  rw [e, Option.bind_some]
  dsimp only
  have hx : x < (l.length : Int) := by omega
  rw [if_pos x0, if_pos hx]
  refine ⟨_, a, s, rfl, ?_, a0, a1⟩
  show l.getD x.toNat 0 ∈ l
  rw [List.getD_eq_getElem?_getD, List.getElem?_eq_getElem (by omega)]
  exact List.getElem_mem (by omega)
theorem one_ok (code : List Int) (hc : codeOk code) (at_ seed n : Int) (h0 : 0 ≤ at_) (h1 : at_ ≤ 900000) (hn : n ≤ 1000000) : ∃ x a s, spec_l1Cur_one.f code at_ seed n = some (x, a, s) ∧ at_ ≤ a ∧ a ≤ at_ + 2 := by
  unfold spec_l1Cur_one.f
  obtain ⟨x, a, s, e, _, _, a0, a1⟩ := pick_ok code hc at_ seed n h0 h1 hn
  rw [e, Option.bind_some]
  exact ⟨_, a, s, rfl, a0, a1⟩
theorem plain_l0 (B : Int) (hB : 0 ≤ B ∧ B ≤ 100000) (code : List Int) (hc : codeOk code) (w h cw ch : Int) (hw : 0 ≤ w ∧ w ≤ 9) (hh : 0 ≤ h ∧ h ≤ 9) (d : Nat) : ∀ (i at_ seed : Int) (xs : List Int), 0 ≤ i → i + (d : Int) = w * h → (xs.length : Int) = i → 0 ≤ at_ → at_ ≤ B + 4 * i →
    ∃ (ys : List Int) (a s : Int), (ys.length : Int) = w * h ∧ (0 ≤ a ∧ a ≤ B + 400) ∧ Ev (fun k => spec_l1Cur_plain.l0 k w h i code at_ seed cw ch xs) (cw, ch, ys, a, s) := by
  have p0 : 0 ≤ w * h := Int.mul_nonneg hw.1 hh.1
  have p1 : w * h ≤ 9 * 9 := Int.mul_le_mul hw.2 hh.2 hh.1 (by decide)
  have pw : wrap64 (w * h) = w * h := wrap_id _ (by omega) (by omega)
  induction d with
  | zero =>
    intro i at_ seed xs h0 hi hx a0 a1
    exact ⟨xs, at_, seed, by omega, ⟨a0, by omega⟩, Ev.step (f := fun _ => some (cw, ch, xs, at_, seed)) (fun k => by rw [spec_l1Cur_plain.l0, pw, if_neg (by omega)]) (Ev.now _)⟩
  | succ d ih =>
    intro i at_ seed xs h0 hi hx a0 a1
    obtain ⟨x, b, s, e, _, b0, b1⟩ := among_ok code hc at_ seed [0, 0, 0, 1, 1, 2, 5] (by decide) a0 (by omega)
    have hn : ∀ (v bb ss : Int), b ≤ bb → bb ≤ b + 2 → ∃ (ys : List Int) (a s : Int), (ys.length : Int) = w * h ∧ (0 ≤ a ∧ a ≤ B + 400) ∧ Ev (fun k => spec_l1Cur_plain.l0 k w h (i + 1) code bb ss cw ch (xs ++ [v])) (cw, ch, ys, a, s) := fun v bb ss g0 g1 =>
      ih (i + 1) bb ss (xs ++ [v]) (by omega) (by omega) (by rw [List.length_append, List.length_singleton]; omega) (by omega) (by omega)
    have wi : wrap64 (i + 1) = i + 1 := wrap_id _ (by omega) (by omega)
    have hwp : w ≠ 0 := fun e => by rw [e, Int.zero_mul] at hi; omega
    by_cases c : i ≥ w
    · obtain ⟨o, bb, ss, e2, g0, g1⟩ := one_ok code hc b s 3 (by omega) (by omega) (by omega)
      have wx : wrap64 (i - w) = i - w := wrap_id _ (by omega) (by omega)
      cases o with
      | true =>
        obtain ⟨ys, a, s', h1, h2, h3⟩ := hn (rd xs (i - w)) bb ss g0 g1
        refine ⟨ys, a, s', h1, h2, Ev.step (fun k => ?_) h3⟩
        rw [spec_l1Cur_plain.l0, pw, if_pos (by omega), e, Option.bind_some]
        dsimp only
        by_cases cz : i - w < (xs.length : Int)
        · rw [if_pos c, e2, Option.bind_some]
          dsimp only
          rw [if_pos rfl, wx, if_pos (by omega), if_pos cz, if_pos (by omega), wi]
        · exact absurd hwp (by omega)
      | false =>
        obtain ⟨ys, a, s', h1, h2, h3⟩ := hn x bb ss g0 g1
        refine ⟨ys, a, s', h1, h2, Ev.step (fun k => ?_) h3⟩
        rw [spec_l1Cur_plain.l0, pw, if_pos (by omega), e, Option.bind_some]
        dsimp only
        rw [if_pos c, e2, Option.bind_some]
        dsimp only
        rw [if_neg (by decide), if_pos (by omega), wi]
    · obtain ⟨ys, a, s', h1, h2, h3⟩ := hn x b s (by omega) (by omega)
      refine ⟨ys, a, s', h1, h2, Ev.step (fun k => ?_) h3⟩
      rw [spec_l1Cur_plain.l0, pw, if_pos (by omega), e, Option.bind_some]
      dsimp only
      rw [if_neg c, if_pos (by omega), wi]
theorem plain_ok (code : List Int) (hc : codeOk code) (w h at_ seed : Int) (hw : 0 ≤ w ∧ w ≤ 9) (hh : 0 ≤ h ∧ h ≤ 9) (a0 : 0 ≤ at_) (a1 : at_ ≤ 100000) : ∃ (ys : List Int) (a s : Int), (ys.length : Int) = w * h ∧ ys.length ≤ 81 ∧ (0 ≤ a ∧ a ≤ at_ + 400) ∧ Ev (fun k => spec_l1Cur_plain.f k code at_ seed w h) (w, h, ys, a, s) := by
  have p0 : 0 ≤ w * h := Int.mul_nonneg hw.1 hh.1
  have p1 : w * h ≤ 9 * 9 := Int.mul_le_mul hw.2 hh.2 hh.1 (by decide)
  obtain ⟨ys, a, s, h1, h2, h3⟩ := plain_l0 at_ ⟨a0, a1⟩ code hc w h w h hw hh (w * h).toNat 0 at_ seed [] (by omega) (by omega) (by simp) a0 (by omega)
  exact ⟨ys, a, s, h1, by omega, h2, h3⟩
theorem chart_ok (code : List Int) (hc : codeOk code) (at_ seed : Int) (a0 : 0 ≤ at_) (a1 : at_ ≤ 50000) : ∃ (w h : Int) (ys : List Int) (a s : Int), ys.length ≤ 82 ∧ (0 ≤ a ∧ a ≤ at_ + 3000) ∧ Ev (fun k => spec_l1Cur_chart.f k code at_ seed) (w, h, ys, a, s) := by
  obtain ⟨w, b1, s1, e1, m1, u1, v1⟩ := among_ok code hc at_ seed [1, 2, 3, 3, 4, 4, 5, 6, 8] (by decide) a0 (by omega)
  obtain ⟨h, b2, s2, e2, m2, u2, v2⟩ := among_ok code hc b1 s1 [1, 2, 3, 3, 4, 5, 8] (by decide) (by omega) (by omega)
  have hw : 1 ≤ w ∧ w ≤ 8 := by simp only [List.mem_cons, List.not_mem_nil, or_false] at m1; omega
  have hh : 1 ≤ h ∧ h ≤ 8 := by simp only [List.mem_cons, List.not_mem_nil, or_false] at m2; omega
  obtain ⟨ys, b3, s3, hy, hy2, ha, he⟩ := plain_ok code hc w h b2 s2 ⟨by omega, by omega⟩ ⟨by omega, by omega⟩ (by omega) (by omega)
  have hpos : 0 < w * h := Int.mul_pos (by omega) (by omega)
  obtain ⟨x, b4, s4, e4, x0, x1, u4, v4⟩ := pick_ok code hc b3 s3 40 (by omega) (by omega) (by omega)
  unfold spec_l1Cur_chart.f
  simp only [e1, e2, Option.bind_some]
  by_cases c0 : x = 0
  · obtain ⟨y, b5, s5, e5, y0, y1, u5, v5⟩ := pick_ok code hc b4 s4 (ys.length : Int) (by omega) (by omega) (by omega)
    obtain ⟨z, b6, s6, e6, _, u6, v6⟩ := among_ok code hc b5 s5 [(-1), 6] (by decide) (by omega) (by omega)
    refine ⟨w, h, ys.set y.toNat z, b6, s6, by rw [List.length_set]; omega, ⟨by omega, by omega⟩, Ev.bind he ?_⟩
    have hy3 : y < (ys.length : Int) := by omega
    simp only [e4, Option.bind_some, if_pos c0, e5, e6, if_pos y0, if_pos hy3]
    exact Ev.now _
  · by_cases c1 : x = 1
    · refine ⟨w, h, ys ++ [0], b4, s4, by rw [List.length_append, List.length_singleton]; omega, ⟨by omega, by omega⟩, Ev.bind he ?_⟩
      simp only [e4, Option.bind_some, if_neg c0, if_pos c1, if_pos (show ys.length < 17592186044416 by omega)]
      exact Ev.now _
    · by_cases c2 : x = 2
      · obtain ⟨v, b5, s5, e5, m5, u5, v5⟩ := among_ok code hc b4 s4 [0, 9] (by decide) (by omega) (by omega)
        have hv : 0 ≤ v ∧ v ≤ 9 := by simp only [List.mem_cons, List.not_mem_nil, or_false] at m5; omega
        obtain ⟨zs, b6, s6, hz, hz2, hb, hf⟩ := plain_ok code hc v 1 b5 s5 hv ⟨by omega, by omega⟩ (by omega) (by omega)
        refine ⟨v, 1, zs, b6, s6, by omega, ⟨by omega, by omega⟩, Ev.bind he ?_⟩
        simp only [e4, Option.bind_some, if_neg c0, if_neg c1, if_pos c2, e5]
        exact Ev.bind hf (Ev.now _)
      · refine ⟨w, h, ys, b4, s4, by omega, ⟨by omega, by omega⟩, Ev.bind he ?_⟩
        simp only [e4, Option.bind_some, if_neg c0, if_neg c1, if_neg c2]
        exact Ev.now _
theorem mk_cell (of : Int → Int → Option Int) (w h r k v : Int) (hv : of r k = some v) (hk : 0 ≤ k ∧ k < w) (hw : w ≤ 8) (xs : List Int) (hx : xs.length ≤ 1000) (H : Int) (res : Int × Int × List Int) (r0 : Int)
    (hn : Ev (fun q => impl_makeChart.l1 of q w r H r0 w (k + 1) w h (xs ++ [v])) res) : Ev (fun q => impl_makeChart.l1 of q w r H r0 w k w h xs) res := by
  exact Ev.step (fun q => by rw [impl_makeChart.l1, if_pos hk.2, hv, Option.bind_some, if_pos (by omega), wrap_id (k + 1) (by omega) (by omega)]) hn
def preV (V : Nat → Int) (m : Nat) : List Int := (List.range m).map V
theorem preV_succ (V : Nat → Int) (m : Nat) : preV V (m + 1) = preV V m ++ [V m] := by unfold preV; rw [List.range_succ, List.map_append]; rfl
theorem preV_len (V : Nat → Int) (m : Nat) : (preV V m).length = m := by unfold preV; rw [List.length_map, List.length_range]
theorem preV_getD (V : Nat → Int) (m j : Nat) (h : j < m) : (preV V m).getD j 0 = V j := by
  unfold preV
  rw [List.getD_eq_getElem?_getD, List.getElem?_map, List.getElem?_range h]
  rfl
theorem mkList_row (of : Int → Int → Option Int) (V : Nat → Int) (W H : Nat) (hW : W ≤ 8) (r : Nat) (hr : r < H) (hH : H ≤ 8) (hof : ∀ c : Nat, c < W → of (r : Int) (c : Int) = some (V (r * W + c))) (n : Nat) : ∀ j : Nat, j + n = W → ∀ res,
    Ev (fun q => impl_makeChart.l0 of q (W : Int) (H : Int) ((r : Int) + 1) (W : Int) (H : Int) (preV V (r * W + W))) res → Ev (fun q => impl_makeChart.l1 of q (W : Int) (r : Int) (H : Int) (r : Int) (W : Int) (j : Int) (W : Int) (H : Int) (preV V (r * W + j))) res := by
  have hm := Nat.mul_le_mul (show r ≤ 8 by omega) hW
  induction n with
  | zero =>
    intro j hj res h
    obtain rfl : j = W := by omega
    exact Ev.step (fun q => by rw [impl_makeChart.l1, if_neg (by omega), wrap_id ((r : Int) + 1) (by omega) (by omega)]) h
  | succ n ih =>
    intro j hj res h
    have e1 : ((j + 1 : Nat) : Int) = (j : Int) + 1 := by omega
    have h2 := ih (j + 1) (by omega) res h
    rw [e1, ← Nat.add_assoc, preV_succ] at h2
    exact mk_cell of (W : Int) (H : Int) (r : Int) (j : Int) _ (hof j (by omega)) ⟨by omega, by omega⟩ (by omega) _ (by rw [preV_len]; omega) (H : Int) res (r : Int) h2
theorem mkList (of : Int → Int → Option Int) (V : Nat → Int) (W H : Nat) (hW : W ≤ 8) (hH : H ≤ 8) (hof : ∀ r c : Nat, r < H → c < W → of (r : Int) (c : Int) = some (V (r * W + c))) : Ev (fun q => impl_makeChart.f of q (W : Int) (H : Int)) ((W : Int), (H : Int), preV V (H * W)) := by
  unfold impl_makeChart.f
  have key : ∀ n r : Nat, r + n = H → Ev (fun q => impl_makeChart.l0 of q (W : Int) (H : Int) (r : Int) (W : Int) (H : Int) (preV V (r * W))) ((W : Int), (H : Int), preV V (H * W)) := by
    intro n
    induction n with
    | zero =>
      intro r hr
      obtain rfl : r = H := by omega
      exact Ev.step (f := fun _ => some _) (fun q => by rw [impl_makeChart.l0, if_neg (by omega)]) (Ev.now _)
    | succ n ih =>
      intro r hr
      have e1 : ((r + 1 : Nat) : Int) = (r : Int) + 1 := by omega
      have h2 := ih (r + 1) (by omega)
      rw [e1, Nat.succ_mul] at h2
      have h3 := mkList_row of V W H hW r (by omega) hH (fun c hc => hof r c (by omega) hc) W 0 (by omega) _ h2
      exact Ev.step (fun q => by rw [impl_makeChart.l0, if_pos (by omega)]; rfl) h3
  have := key H 0 (by omega)
  rw [Nat.zero_mul] at this
  exact this
theorem Ev.uniq {α : Type} {g : Nat → Option α} {a b : α} (h : Ev g a) (k : Ev g b) : a = b := by
  obtain ⟨K1, h1⟩ := h
  obtain ⟨K2, h2⟩ := k
  have e1 := h1 (K1 + K2) (by omega)
  rw [h2 (K1 + K2) (by omega)] at e1
  exact (Option.some.inj e1).symm
def okPhotos (w h : Int) (l : List Int) (w2 h2 : Int) (l2 : List Int) (dr dc : Int) : Bool := okChart w h l && (okChart w2 h2 l2 && (rng dr (-2) 2 && rng dc (-2) 2))
theorem specShift_ev (w h : Int) (l : List Int) (w2 h2 : Int) (l2 : List Int) (dr dc : Int) (hl : l.length ≤ 2000000) (hl2 : l2.length ≤ 2000000) : Ev (fun k => spec_l13Shift.f k w h l w2 h2 l2 dr dc) (okPhotos w h l w2 h2 l2 dr dc) := by
  unfold spec_l13Shift.f okPhotos
  refine Ev.bind (l2Good_ev w h l hl) ?_
  cases okChart w h l with
  | false => simp only [Bool.false_eq_true, if_false, Bool.false_and]; exact Ev.now _
  | true =>
    simp only [if_true, Bool.true_and]
    refine Ev.bind (l2Good_ev w2 h2 l2 hl2) ?_
    cases okChart w2 h2 l2 with
    | false => simp only [Bool.false_eq_true, if_false, Bool.false_and]; exact Ev.now _
    | true =>
      simp only [if_true, Bool.true_and, l1In_eq, Option.bind_some]
      cases rng dr (-2) 2 <;> exact Ev.now _
theorem arePhotos_eq (w h : Int) (l : List Int) (w2 h2 : Int) (l2 : List Int) (dr dc : Int) : impl_arePhotos.f w h l w2 h2 l2 dr dc = some (okPhotos w h l w2 h2 l2 dr dc) := by
  unfold impl_arePhotos.f impl_isShift.f okPhotos
  simp only [IsChart_eq, in_eq, Option.bind_some]
  cases okChart w h l <;> cases okChart w2 h2 l2 <;> cases rng dr (-2) 2 <;> rfl
theorem isShift_eq (d a : Int) : impl_isShift.f d a = some (rng d (-2) 2 && rng a (-2) 2) := by
  unfold impl_isShift.f
  simp only [in_eq, Option.bind_some]
  cases rng d (-2) 2 <;> rfl
def shV (w h : Int) (l : List Int) (d a c r k : Int) : Int := if (rng (r + d) 0 (h - 1) && rng (k + a) 0 (w - 1)) = true then rd l ((r + d) * w + (k + a)) else c
theorem ofShift_eq (w h : Int) (l : List Int) (d a c : Int) (hk : okChart w h l = true) (hd : -2 ≤ d ∧ d ≤ 2) (ha : -2 ≤ a ∧ a ≤ 2) (r k : Int) (hr : 0 ≤ r ∧ r ≤ 8) (hkk : 0 ≤ k ∧ k ≤ 8) : ofShift w h l d a c r k = some (shV w h l d a c r k) := by
  unfold ofShift shV
  rw [wrap_id (r + d) (by omega) (by omega), wrap_id (k + a) (by omega) (by omega), hasPlace_eq w h l hk, Option.bind_some]
  by_cases hb : (rng (r + d) 0 (h - 1) && rng (k + a) 0 (w - 1)) = true
  · rw [if_pos hb, if_pos hb]
    rw [Bool.and_eq_true, rng_iff, rng_iff] at hb
    exact implAt_eq w h l hk _ _ hb.1 hb.2
  · rw [if_neg hb, if_neg hb]
theorem sh_cell (w h : Int) (l : List Int) (d a c : Int) (hk : okChart w h l = true) (hd : -2 ≤ d ∧ d ≤ 2) (ha : -2 ≤ a ∧ a ≤ 2) (r k : Int) (hr : 0 ≤ r ∧ r ≤ 8) (hkk : 0 ≤ k ∧ k < w) (xs : List Int) (hx : xs.length ≤ 1000) (res : Int × Int × List Int × Bool)
    (hn : Ev (fun q => spec_ShiftPhoto.l1 q d a c r (k + 1) w h l w h (xs ++ [shV w h l d a c r k])) res) : Ev (fun q => spec_ShiftPhoto.l1 q d a c r k w h l w h xs) res := by
  obtain ⟨_, hw, hh, hlen, h64⟩ := okChart_iff w h l hk
  have W := within_ev w h l hk (r + d) (k + a)
  refine Ev.step (fun q => by rw [spec_ShiftPhoto.l1, if_pos hkk.2, wrap_id (r + d) (by omega) (by omega), wrap_id (k + a) (by omega) (by omega)]) (Ev.bind W ?_)
  unfold shV at hn
  by_cases hb : (rng (r + d) 0 (h - 1) && rng (k + a) 0 (w - 1)) = true
  · simp only [if_pos hb] at hn ⊢
    rw [Bool.and_eq_true, rng_iff, rng_iff] at hb
    simp only [specAt_eq w h l hk _ _ hb.1 hb.2, Option.bind_some, if_pos (show xs.length < 17592186044416 by omega), wrap_id (k + 1) (show -9223372036854775808 ≤ k + 1 by omega) (show k + 1 ≤ 9223372036854775807 by omega)]
    exact hn
  · simp only [if_neg hb] at hn ⊢
    simp only [if_pos (show xs.length < 17592186044416 by omega), wrap_id (k + 1) (show -9223372036854775808 ≤ k + 1 by omega) (show k + 1 ≤ 9223372036854775807 by omega)]
    exact hn
theorem sh_row (w h : Int) (l : List Int) (d a c : Int) (hk : okChart w h l = true) (hd : -2 ≤ d ∧ d ≤ 2) (ha : -2 ≤ a ∧ a ≤ 2) (r : Int) (hr : 0 ≤ r ∧ r ≤ 8) (n : Nat) : ∀ (j : Nat) (xs : List Int), (j : Int) + (n : Int) = w → xs.length + n ≤ 800 → j ≤ 8 →
    ∃ ys : List Int, ys.length = xs.length + n ∧ (∀ res, Ev (fun q => spec_ShiftPhoto.l0 q d a c (r + 1) w h l w h ys) res → Ev (fun q => spec_ShiftPhoto.l1 q d a c r (j : Int) w h l w h xs) res) ∧
      (∀ res, Ev (fun q => impl_makeChart.l0 (ofShift w h l d a c) q w h (r + 1) w h ys) res → Ev (fun q => impl_makeChart.l1 (ofShift w h l d a c) q w r h r w (j : Int) w h xs) res) := by
  obtain ⟨_, hw, hh, hlen, h64⟩ := okChart_iff w h l hk
  induction n with
  | zero =>
    intro j xs hj hx h8
    exact ⟨xs, rfl, fun res h => Ev.step (fun q => by rw [spec_ShiftPhoto.l1, if_neg (by omega), wrap_id (r + 1) (by omega) (by omega)]) h, fun res h => Ev.step (fun q => by rw [impl_makeChart.l1, if_neg (by omega), wrap_id (r + 1) (by omega) (by omega)]) h⟩
  | succ n ih =>
    intro j xs hj hx h8
    obtain ⟨ys, h1, h2, h3⟩ := ih (j + 1) (xs ++ [shV w h l d a c r (j : Int)]) (by omega) (by rw [List.length_append, List.length_singleton]; omega) (by omega)
    have e1 : ((j + 1 : Nat) : Int) = (j : Int) + 1 := by omega
    rw [e1] at h2 h3
    rw [List.length_append, List.length_singleton] at h1
    have hjw : 0 ≤ (j : Int) ∧ (j : Int) < w := ⟨by omega, by omega⟩
    have hj8 : 0 ≤ (j : Int) ∧ (j : Int) ≤ 8 := ⟨by omega, by omega⟩
    exact ⟨ys, by omega, fun res hres => sh_cell w h l d a c hk hd ha r (j : Int) hr hjw xs (by omega) res (h2 res hres), fun res hres => mk_cell (ofShift w h l d a c) w h r (j : Int) _ (ofShift_eq w h l d a c hk hd ha r (j : Int) hr hj8) hjw hw.2 xs (by omega) h res r (h3 res hres)⟩
theorem sh_all (w h : Int) (l : List Int) (d a c : Int) (hk : okChart w h l = true) (hd : -2 ≤ d ∧ d ≤ 2) (ha : -2 ≤ a ∧ a ≤ 2) (n : Nat) : ∀ (i : Nat) (xs : List Int), (i : Int) + (n : Int) = h → xs.length ≤ 8 * i → i ≤ 8 →
    ∃ ys : List Int, ys.length ≤ 100 ∧ Ev (fun q => spec_ShiftPhoto.l0 q d a c (i : Int) w h l w h xs) (w, h, ys, true) ∧ Ev (fun q => impl_makeChart.l0 (ofShift w h l d a c) q w h (i : Int) w h xs) (w, h, ys) := by
  obtain ⟨_, hw, hh, hlen, h64⟩ := okChart_iff w h l hk
  induction n with
  | zero =>
    intro i xs hi hx h8
    exact ⟨xs, by omega, Ev.step (f := fun _ => some (w, h, xs, true)) (fun q => by rw [spec_ShiftPhoto.l0, if_neg (by omega)]) (Ev.now _), Ev.step (f := fun _ => some (w, h, xs)) (fun q => by rw [impl_makeChart.l0, if_neg (by omega)]) (Ev.now _)⟩
  | succ n ih =>
    intro i xs hi hx h8
    obtain ⟨ys, h1, h2, h3⟩ := sh_row w h l d a c hk hd ha (i : Int) ⟨by omega, by omega⟩ w.toNat 0 xs (by omega) (by omega) (by omega)
    obtain ⟨zs, g1, g2, g3⟩ := ih (i + 1) ys (by omega) (by omega) (by omega)
    have e1 : ((i + 1 : Nat) : Int) = (i : Int) + 1 := by omega
    rw [e1] at g2 g3
    exact ⟨zs, g1, Ev.step (fun q => by rw [spec_ShiftPhoto.l0, if_pos (by omega)]; rfl) (h2 _ g2), Ev.step (fun q => by rw [impl_makeChart.l0, if_pos (by omega)]; rfl) (h3 _ g3)⟩
theorem ShiftPhoto_same (w h : Int) (l : List Int) (d a c : Int) (hl : l.length ≤ 2000000) : ∃ r : Int × Int × List Int × Bool, r.2.2.1.length ≤ 100 ∧ Ev (fun k => spec_ShiftPhoto.f k w h l d a c) r ∧ Ev (fun k => impl_ShiftPhoto.f k w h l d a c) r := by
  unfold spec_ShiftPhoto.f impl_ShiftPhoto.f
  have no1 : Ev (fun k => spec_ShiftPhoto.j0 k d a c true w h l) (0, 0, [], false) := Ev.step (fun k => by rw [spec_ShiftPhoto.j0, if_pos rfl]) (Ev.now _)
  have e1 : spec_l2Color.f c = some (rng c 0 5) := by unfold spec_l2Color.f; rw [l1In_eq]; rfl
  have e2 : impl_isColor.f c = some (rng c 0 5) := by unfold impl_isColor.f; rw [in_eq]; rfl
  have S := specShift_ev w h l w h l d a hl hl
  simp only [IsChart_eq, isShift_eq, e2, Option.bind_some]
  cases hk : okChart w h l with
  | false =>
    have ep : okPhotos w h l w h l d a = false := by unfold okPhotos; rw [hk]; rfl
    refine ⟨(0, 0, [], false), by simp, Ev.bind S ?_, ?_⟩
    · simp only [ep, Bool.false_eq_true, if_false]; exact no1
    · simp only [Bool.false_eq_true, if_false]; exact Ev.now _
  | true =>
    cases hs : (rng d (-2) 2 && rng a (-2) 2) with
    | false =>
      have ep : okPhotos w h l w h l d a = false := by unfold okPhotos; rw [hk, hs]; rfl
      refine ⟨(0, 0, [], false), by simp, Ev.bind S ?_, ?_⟩
      · simp only [ep, Bool.false_eq_true, if_false]; exact no1
      · simp only [if_true, Bool.false_eq_true, if_false]; exact Ev.now _
    | true =>
      have ep : okPhotos w h l w h l d a = true := by unfold okPhotos; rw [hk, hs]; rfl
      cases hc : rng c 0 5 with
      | false =>
        refine ⟨(0, 0, [], false), by simp, Ev.bind S ?_, ?_⟩
        · simp only [ep, if_true, e1, hc, Option.bind_some, Bool.not_false]; exact no1
        · simp only [if_true, Bool.false_eq_true, if_false]; exact Ev.now _
      | true =>
        rw [Bool.and_eq_true, rng_iff, rng_iff] at hs
        obtain ⟨_, hw, hh, hlen, h64⟩ := okChart_iff w h l hk
        obtain ⟨ys, h1, h2, h3⟩ := sh_all w h l d a c hk hs.1 hs.2 h.toNat 0 [] (by omega) (by simp) (by omega)
        refine ⟨(w, h, ys, true), h1, Ev.bind S ?_, ?_⟩
        · simp only [ep, if_true, e1, hc, Option.bind_some, Bool.not_true]
          exact Ev.step (fun k => by rw [spec_ShiftPhoto.j0, if_neg (by decide)]; rfl) h2
        · simp only [if_true]
          have h4 : Ev (fun k => impl_makeChart.f (ofShift w h l d a c) k w h) (w, h, ys) := h3
          refine Ev.bind h4 ?_
          simp only [and_self, if_true]
          exact Ev.now _
def shL (w h : Int) (l : List Int) (d a c : Int) (W : Nat) (j : Nat) : Int := shV w h l d a c ((j / W : Nat) : Int) ((j % W : Nat) : Int)
theorem idx_div (r c W : Nat) (h : c < W) : (r * W + c) / W = r ∧ (r * W + c) % W = c := by
  constructor
  · rw [Nat.mul_comm, Nat.mul_add_div (by omega), Nat.div_eq_of_lt h, Nat.add_zero]
  · rw [Nat.mul_comm, Nat.mul_add_mod, Nat.mod_eq_of_lt h]
theorem ShiftPhoto_val (w h : Int) (l : List Int) (d a c : Int) (hk : okChart w h l = true) (hd : -2 ≤ d ∧ d ≤ 2) (ha : -2 ≤ a ∧ a ≤ 2) (hc : 0 ≤ c ∧ c ≤ 5) :
    Ev (fun k => impl_ShiftPhoto.f k w h l d a c) (w, h, preV (shL w h l d a c w.toNat) (h.toNat * w.toNat), true) := by
  obtain ⟨_, hw, hh, hlen, h64⟩ := okChart_iff w h l hk
  obtain ⟨W, rfl⟩ := Int.eq_ofNat_of_zero_le (show 0 ≤ w by omega)
  obtain ⟨H, rfl⟩ := Int.eq_ofNat_of_zero_le (show 0 ≤ h by omega)
  have e2 : impl_isColor.f c = some (rng c 0 5) := by unfold impl_isColor.f; rw [in_eq]; rfl
  have hm := mkList (ofShift (W : Int) (H : Int) l d a c) (shL (W : Int) (H : Int) l d a c W) W H (by omega) (by omega) (fun r q hr hq => by
    rw [ofShift_eq _ _ l d a c hk hd ha (r : Int) (q : Int) ⟨by omega, by omega⟩ ⟨by omega, by omega⟩]
    unfold shL
    rw [(idx_div r q W hq).1, (idx_div r q W hq).2])
  unfold impl_ShiftPhoto.f
  simp only [IsChart_eq, isShift_eq, e2, Option.bind_some, hk, if_true, (rng_iff d (-2) 2).2 hd, (rng_iff a (-2) 2).2 ha, (rng_iff c 0 5).2 hc, Bool.and_self, Int.toNat_natCast]
  refine Ev.bind hm ?_
  simp only [and_self, if_true]
  exact Ev.now _
theorem ShiftPhoto_spec (w h : Int) (l : List Int) (d a c : Int) (hk : okChart w h l = true) (hd : -2 ≤ d ∧ d ≤ 2) (ha : -2 ≤ a ∧ a ≤ 2) (hc : 0 ≤ c ∧ c ≤ 5) (hl : l.length ≤ 2000000) : ∃ ys : List Int, ys.length = l.length ∧ Ev (fun k => spec_ShiftPhoto.f k w h l d a c) (w, h, ys, true) := by
  obtain ⟨r, _, hs, hi⟩ := ShiftPhoto_same w h l d a c hl
  have e := Ev.uniq hi (ShiftPhoto_val w h l d a c hk hd ha hc)
  subst e
  refine ⟨_, ?_, hs⟩
  obtain ⟨_, hw, hh, hlen, h64⟩ := okChart_iff w h l hk
  rw [preV_len]
  have : ((h.toNat * w.toNat : Nat) : Int) = w * h := by rw [Int.natCast_mul, Int.toNat_of_nonneg (by omega), Int.toNat_of_nonneg (by omega), Int.mul_comm]
  omega
theorem shV_color (w h : Int) (l : List Int) (d a c : Int) (hk : okChart w h l = true) (hc : 0 ≤ c ∧ c ≤ 5) (r q : Int) : 0 ≤ shV w h l d a c r q ∧ shV w h l d a c r q ≤ 5 := by
  obtain ⟨hcol, _⟩ := okChart_iff w h l hk
  unfold shV
  split
  · rename_i hb
    rw [Bool.and_eq_true, rng_iff, rng_iff] at hb
    obtain ⟨i1, i2, _⟩ := at_idx w h l hk _ _ hb.1 hb.2
    exact hcol _ (by omega)
  · exact hc
theorem shifted_ok (w h : Int) (l : List Int) (d a c : Int) (hk : okChart w h l = true) (hc : 0 ≤ c ∧ c ≤ 5) : okChart w h (preV (shL w h l d a c w.toNat) (h.toNat * w.toNat)) = true := by
  obtain ⟨_, hw, hh, hlen, h64⟩ := okChart_iff w h l hk
  obtain ⟨W, rfl⟩ := Int.eq_ofNat_of_zero_le (show 0 ≤ w by omega)
  obtain ⟨H, rfl⟩ := Int.eq_ofNat_of_zero_le (show 0 ≤ h by omega)
  have e : ((H * W : Nat) : Int) = (W : Int) * (H : Int) := by rw [Int.natCast_mul, Int.mul_comm]
  unfold okChart
  rw [preV_len]
  simp only [Int.toNat_natCast]
  rw [e, wrap_id _ (by omega) (by omega), (rng_iff _ 1 8).2 ⟨by omega, by omega⟩, (rng_iff _ 1 8).2 ⟨by omega, by omega⟩]
  simp only [beq_self_eq_true, Bool.and_true, List.all_eq_true]
  intro x hx
  unfold preV at hx
  obtain ⟨j, _, rfl⟩ := List.mem_map.1 hx
  exact (rng_iff _ _ _).2 (shV_color _ _ l d a c hk hc _ _)
theorem shifted_same (w h : Int) (l : List Int) (d a c : Int) (hk : okChart w h l = true) : (wrongF w h (preV (shL w h l d a c w.toNat) (h.toNat * w.toNat)) w h l d a).1 = [] := by
  obtain ⟨_, hw, hh, hlen, h64⟩ := okChart_iff w h l hk
  obtain ⟨W, rfl⟩ := Int.eq_ofNat_of_zero_le (show 0 ≤ w by omega)
  obtain ⟨H, rfl⟩ := Int.eq_ofNat_of_zero_le (show 0 ≤ h by omega)
  simp only [Int.toNat_natCast]
  have row : ∀ r : Nat, r < H → ∀ s : List SP × Int, s.1 = [] → (rowF (W : Int) (preV (shL (W : Int) (H : Int) l d a c W) (H * W)) (W : Int) (H : Int) l d a r s).1 = [] := by
    intro r hr s hs
    unfold rowF
    rw [Int.toNat_natCast]
    refine (loopN_inv (cellF (W : Int) (preV (shL (W : Int) (H : Int) l d a c W) (H * W)) (W : Int) (H : Int) l d a r) (fun (_ : Nat) (s : List SP × Int) => s.1 = []) W (fun q s hq hs => ?_) s hs)
    unfold cellF
    split
    · rename_i hb
      have e : rd (preV (shL (W : Int) (H : Int) l d a c W) (H * W)) ((r : Int) * (W : Int) + (q : Int)) = rd l (((r : Int) + d) * (W : Int) + ((q : Int) + a)) := by
        have e0 : ((r : Int) * (W : Int) + (q : Int)) = ((r * W + q : Nat) : Int) := by rw [Int.natCast_add, Int.natCast_mul]
        have hlt : r * W + q < H * W := by
          have := Nat.mul_le_mul_right W (show r + 1 ≤ H by omega)
          rw [Nat.succ_mul] at this
          omega
        rw [e0]
        show (preV _ _).getD (r * W + q) 0 = _
        rw [preV_getD _ _ _ hlt]
        unfold shL
        rw [(idx_div r q W hq).1, (idx_div r q W hq).2]
        unfold shV
        rw [if_pos hb]
      rw [if_pos e]
      exact hs
    · exact hs
  unfold wrongF
  rw [Int.toNat_natCast]
  exact loopN_inv (rowF (W : Int) (preV (shL (W : Int) (H : Int) l d a c W) (H * W)) (W : Int) (H : Int) l d a) (fun (_ : Nat) (s : List SP × Int) => s.1 = []) H (fun r s hr hs => row r hr s hs) ([], 0) rfl
theorem DifferencesAt_val (w h : Int) (l : List Int) (w2 h2 : Int) (l2 : List Int) (dr dc : Int) (hk : okChart w h l = true) (hk2 : okChart w2 h2 l2 = true) (hdr : -2 ≤ dr ∧ dr ≤ 2) (hdc : -2 ≤ dc ∧ dc ≤ 2) :
    Ev (fun k => impl_DifferencesAt.f k w h l w2 h2 l2 dr dc) (((wrongF w h l w2 h2 l2 dr dc).1.length : Int), (wrongF w h l w2 h2 l2 dr dc).2, true) := by
  unfold impl_DifferencesAt.f
  simp only [arePhotos_eq, Option.bind_some]
  have hp : okPhotos w h l w2 h2 l2 dr dc = true := by
    unfold okPhotos
    rw [hk, hk2, (rng_iff _ _ _).2 hdr, (rng_iff _ _ _).2 hdc]
    rfl
  simp only [hp, if_true]
  exact Ev.bind (implWrong_ev w h l w2 h2 l2 dr dc hk hk2 hdr hdc) (Ev.now _)
theorem own_eq (w h : Int) (l : List Int) (hl : l.length ≤ 2000000) : spec_l2Own.f w h l = some (w, h, l) := by
  unfold spec_l2Own.f spec_l1Own.f
  simp only [Option.bind_some, List.nil_append, List.length_nil]
  rw [if_pos (by omega)]
  rfl
theorem shift_ok (code : List Int) (hc : codeOk code) (at_ seed : Int) (h0 : 0 ≤ at_) (h1 : at_ ≤ 900000) : ∃ x a s, spec_l1Cur_shift.f code at_ seed = some (x, a, s) ∧ at_ ≤ a ∧ a ≤ at_ + 2 := by
  unfold spec_l1Cur_shift.f
  obtain ⟨x, a, s, e, _, a0, a1⟩ := among_ok code hc at_ seed [0, 0, 0, 1, (-1), 2, (-2), 3, (-3)] (by decide) h0 h1
  rw [e, Option.bind_some]
  exact ⟨_, a, s, rfl, a0, a1⟩
theorem photo_l0 (code : List Int) (hc : codeOk code) (w h : Int) (l : List Int) (cw ch : Int) (n : Nat) : ∀ (at_ seed : Int) (xs : List Int), n ≤ 10 → 0 < xs.length → xs.length ≤ 100 → 0 ≤ at_ → at_ + 10 * (n : Int) ≤ 20000 →
    ∃ (ys : List Int) (a s : Int), ys.length = xs.length ∧ (0 ≤ a ∧ a ≤ 20000) ∧ Ev (fun k => spec_l1Cur_photo.l0 k (n : Int) code at_ seed w h l cw ch xs) (w, h, l, cw, ch, ys, a, s) := by
  induction n with
  | zero =>
    intro at_ seed xs _ h0 h1 a0 a1
    exact ⟨xs, at_, seed, rfl, ⟨a0, by omega⟩, Ev.step (f := fun _ => some (w, h, l, cw, ch, xs, at_, seed)) (fun k => by rw [spec_l1Cur_photo.l0, if_neg (by omega)]) (Ev.now _)⟩
  | succ n ih =>
    intro at_ seed xs hn h0 h1 a0 a1
    obtain ⟨x, b1, s1, e1, x0, x1, u1, v1⟩ := pick_ok code hc at_ seed (xs.length : Int) a0 (by omega) (by omega)
    obtain ⟨y, b2, s2, e2, _, _, u2, v2⟩ := pick_ok code hc b1 s1 3 (by omega) (by omega) (by omega)
    obtain ⟨ys, a, s, y1, y2, y3⟩ := ih b2 s2 (xs.set x.toNat y) (by omega) (by rw [List.length_set]; exact h0) (by rw [List.length_set]; exact h1) (by omega) (by omega)
    rw [List.length_set] at y1
    refine ⟨ys, a, s, y1, y2, Ev.step (fun k => ?_) y3⟩
    have hx : x < (xs.length : Int) := by omega
    rw [spec_l1Cur_photo.l0, if_pos (by omega), e1, Option.bind_some]
    dsimp only
    rw [e2, Option.bind_some]
    dsimp only
    rw [if_pos x0, if_pos hx, wrap_id (((n + 1 : Nat) : Int) - 1) (by omega) (by omega)]
    congr 1
    omega
theorem photo_ok (code : List Int) (hc : codeOk code) : ∃ (w h : Int) (l : List Int) (w2 h2 : Int) (l2 : List Int) (a s : Int), l.length ≤ 100 ∧ l2.length ≤ 100 ∧ (0 ≤ a ∧ a ≤ 20000) ∧ Ev (fun k => spec_l1Cur_photo.f k code 0 0) (w, h, l, w2, h2, l2, a, s) := by
  obtain ⟨w, h, l, a1, s1, hl, ha, hd⟩ := chart_ok code hc 0 0 (by omega) (by omega)
  have alt : ∀ b t : Int, 0 ≤ b → b ≤ 12100 → ∃ (w2 h2 : Int) (l2 : List Int) (a s : Int), l2.length ≤ 100 ∧ (0 ≤ a ∧ a ≤ 20000) ∧ Ev (fun k => spec_l1Cur_photo.j0 k true code b t w h l) (w, h, l, w2, h2, l2, a, s) := by
    intro b t b0 b1
    obtain ⟨w2, h2, l2, a2, s2, hl2, ha2, hd2⟩ := chart_ok code hc b t b0 (by omega)
    exact ⟨w2, h2, l2, a2, s2, by omega, ⟨by omega, by omega⟩, Ev.step (fun k => by rw [spec_l1Cur_photo.j0, if_pos rfl]) (Ev.bind hd2 (Ev.now _))⟩
  cases hk : okChart w h l with
  | false =>
    obtain ⟨w2, h2, l2, a, s, q1, q2, q3⟩ := alt a1 s1 ha.1 (by omega)
    refine ⟨w, h, l, w2, h2, l2, a, s, by omega, q1, q2, ?_⟩
    unfold spec_l1Cur_photo.f
    refine Ev.bind hd (Ev.bind (l2Good_ev w h l (by omega)) ?_)
    simp only [hk, Bool.false_eq_true, if_false]
    exact q3
  | true =>
    obtain ⟨o, b1, t1, e1, u1, v1⟩ := one_ok code hc a1 s1 8 ha.1 (by omega) (by omega)
    obtain ⟨_, hw, hh, hlen, h64⟩ := okChart_iff w h l hk
    have hpos : 0 < w * h := Int.mul_pos (by omega) (by omega)
    have main : ∃ (w2 h2 : Int) (l2 : List Int) (a s : Int), l2.length ≤ 100 ∧ (0 ≤ a ∧ a ≤ 20000) ∧ Ev (fun k => spec_l1Cur_photo.j0 k o code b1 t1 w h l) (w, h, l, w2, h2, l2, a, s) := by
      cases o with
      | true => exact alt b1 t1 (by omega) (by omega)
      | false =>
        obtain ⟨x2, b2, t2, e2, x20, x21, u2, v2⟩ := pick_ok code hc b1 t1 5 (by omega) (by omega) (by omega)
        obtain ⟨x3, b3, t3, e3, x30, x31, u3, v3⟩ := pick_ok code hc b2 t2 5 (by omega) (by omega) (by omega)
        obtain ⟨x4, b4, t4, e4, x40, x41, u4, v4⟩ := pick_ok code hc b3 t3 3 (by omega) (by omega) (by omega)
        obtain ⟨ys0, hy0, hs⟩ := ShiftPhoto_spec w h l (x2 - 2) (x3 - 2) x4 hk (by omega) (by omega) (by omega) (by omega)
        have wx2 : wrap64 (x2 - 2) = x2 - 2 := wrap_id _ (by omega) (by omega)
        have wx3 : wrap64 (x3 - 2) = x3 - 2 := wrap_id _ (by omega) (by omega)
        rw [← wx2, ← wx3] at hs
        have fin : ∀ (cw ch : Int) (xs : List Int) (b t : Int), 0 < xs.length → xs.length ≤ 100 → 0 ≤ b → b ≤ 13000 → ∃ (w2 h2 : Int) (l2 : List Int) (a s : Int), l2.length ≤ 100 ∧ (0 ≤ a ∧ a ≤ 20000) ∧ Ev (fun k => spec_l1Cur_photo.j2 k code b t w h l cw ch xs) (w, h, l, w2, h2, l2, a, s) := by
          intro cw ch xs b t p1 p2 p3 p4
          obtain ⟨y, b5, t5, e5, y0, y1, u5, v5⟩ := pick_ok code hc b t 4 p3 (by omega) (by omega)
          obtain ⟨n, rfl⟩ := Int.eq_ofNat_of_zero_le y0
          obtain ⟨ys, a, s, z1, z2, z3⟩ := photo_l0 code hc w h l cw ch n b5 t5 xs (by omega) p1 p2 (by omega) (by omega)
          refine ⟨cw, ch, ys, a, s, by omega, z2, Ev.step (fun k => ?_) z3⟩
          rw [spec_l1Cur_photo.j2, e5, Option.bind_some]
        have step : ∀ res, Ev (fun k => (spec_l1Cur_one.f code b4 t4 2).bind fun bt986 => (spec_l1Cur_photo.j1 k bt986.1 code bt986.2.1 bt986.2.2 w h l w h l w h ys0)) res → Ev (fun k => spec_l1Cur_photo.j0 k false code b1 t1 w h l) res := fun res h => by
          refine Ev.step (fun k => by rw [spec_l1Cur_photo.j0, if_neg (by decide), own_eq _ _ _ (by omega), Option.bind_some, e2, Option.bind_some]; dsimp only; rw [e3, Option.bind_some]; dsimp only; rw [e4, Option.bind_some]) (Ev.bind hs ?_)
          simp only [if_true]
          exact h
        obtain ⟨o2, b5, t5, e5, u5, v5⟩ := one_ok code hc b4 t4 2 (by omega) (by omega) (by omega)
        simp only [e5, Option.bind_some] at step
        cases o2 with
        | true =>
          obtain ⟨w2, h2, l2, a, s, q1, q2, q3⟩ := fin w h ys0 b5 t5 (by omega) (by omega) (by omega) (by omega)
          exact ⟨w2, h2, l2, a, s, q1, q2, step _ (Ev.step (fun k => by rw [spec_l1Cur_photo.j1, if_pos rfl]) q3)⟩
        | false =>
          obtain ⟨w2, h2, l2, a, s, q1, q2, q3⟩ := fin w h l b5 t5 (by omega) (by omega) (by omega) (by omega)
          exact ⟨w2, h2, l2, a, s, q1, q2, step _ (Ev.step (fun k => by rw [spec_l1Cur_photo.j1, if_neg (by decide)]) q3)⟩
    obtain ⟨w2, h2, l2, a, s, q1, q2, q3⟩ := main
    refine ⟨w, h, l, w2, h2, l2, a, s, by omega, q1, q2, ?_⟩
    unfold spec_l1Cur_photo.f
    refine Ev.bind hd (Ev.bind (l2Good_ev w h l (by omega)) ?_)
    simp only [hk, if_true, e1, Option.bind_some]
    exact q3
theorem color_ok (code : List Int) (hc : codeOk code) (at_ seed : Int) (h0 : 0 ≤ at_) (h1 : at_ ≤ 900000) : ∃ x a s, spec_l1Cur_color.f code at_ seed = some (x, a, s) ∧ at_ ≤ a ∧ a ≤ at_ + 2 := by
  unfold spec_l1Cur_color.f
  obtain ⟨x, a, s, e, _, a0, a1⟩ := among_ok code hc at_ seed [0, 0, 1, 1, 2, 3, 5, 6, (-1)] (by decide) h0 h1
  rw [e, Option.bind_some]
  exact ⟨_, a, s, rfl, a0, a1⟩
theorem drawnBest (code : List Int) (hc : codeOk code) : ∃ (w h : Int) (l : List Int) (w2 h2 : Int) (l2 : List Int), l.length ≤ 100 ∧ l2.length ≤ 100 ∧ Ev (fun k => spec_DrawBestShift.f k code) (w, h, l, w2, h2, l2) := by
  obtain ⟨w, h, l, w2, h2, l2, a, s, q1, q2, _, q3⟩ := photo_ok code hc
  exact ⟨w, h, l, w2, h2, l2, q1, q2, by unfold spec_DrawBestShift.f; exact Ev.bind q3 (Ev.now _)⟩
theorem drawnPiece (code : List Int) (hc : codeOk code) : ∃ (w h : Int) (l : List Int) (w2 h2 : Int) (l2 : List Int) (p : Int), l.length ≤ 100 ∧ l2.length ≤ 100 ∧ Ev (fun k => spec_DrawIsSamePiece.f k code) (w, h, l, w2, h2, l2, p) := by
  obtain ⟨w, h, l, w2, h2, l2, a, s, q1, q2, q4, q3⟩ := photo_ok code hc
  obtain ⟨x, b, t, e, _, _, _⟩ := among_ok code hc a s [0, 5, 10, 25, 50, 100, 101, (-1)] (by decide) q4.1 (by omega)
  exact ⟨w, h, l, w2, h2, l2, x, q1, q2, by unfold spec_DrawIsSamePiece.f; exact Ev.bind q3 (by simp only [e, Option.bind_some]; exact Ev.now _)⟩
theorem drawnShift (code : List Int) (hc : codeOk code) : ∃ (w h : Int) (l : List Int) (d a c : Int), l.length ≤ 100 ∧ Ev (fun k => spec_DrawShiftPhoto.f k code) (w, h, l, d, a, c) := by
  obtain ⟨w, h, l, b, s, hl, hb, hd⟩ := chart_ok code hc 0 0 (by omega) (by omega)
  obtain ⟨d, b1, s1, e1, u1, v1⟩ := shift_ok code hc b s hb.1 (by omega)
  obtain ⟨a, b2, s2, e2, u2, v2⟩ := shift_ok code hc b1 s1 (by omega) (by omega)
  obtain ⟨c, b3, s3, e3, u3, v3⟩ := color_ok code hc b2 s2 (by omega) (by omega)
  exact ⟨w, h, l, d, a, c, by omega, by unfold spec_DrawShiftPhoto.f; exact Ev.bind hd (by simp only [e1, e2, e3, Option.bind_some]; exact Ev.now _)⟩
theorem merge_l0 (code : List Int) (hc : codeOk code) (w h : Int) (l : List Int) (w2 h2 : Int) (l2 : List Int) (cw ch : Int) (n : Nat) : ∀ (at_ seed : Int) (xs : List Int), n ≤ 10 → xs.length ≤ 100 → 0 ≤ at_ → at_ + 10 * (n : Int) ≤ 30000 →
    ∃ ys : List Int, ys.length = xs.length ∧ Ev (fun k => spec_DrawMergePhotos.l0 k (n : Int) code at_ seed w h l w2 h2 l2 cw ch xs) (w, h, l, w2, h2, l2, cw, ch, ys) := by
  induction n with
  | zero =>
    intro at_ seed xs _ h1 a0 a1
    exact ⟨xs, rfl, Ev.step (fun k => by rw [spec_DrawMergePhotos.l0, if_neg (by omega)]) (Ev.step (f := fun _ => some (w, h, l, w2, h2, l2, cw, ch, xs)) (fun k => by rw [spec_DrawMergePhotos.j1, if_neg (by decide)]) (Ev.now _))⟩
  | succ n ih =>
    intro at_ seed xs hn h1 a0 a1
    by_cases c0 : (xs.length : Int) > 0
    · obtain ⟨x, b1, s1, e1, x0, x1, u1, v1⟩ := pick_ok code hc at_ seed (xs.length : Int) a0 (by omega) (by omega)
      obtain ⟨y, b2, s2, e2, _, _, u2, v2⟩ := pick_ok code hc b1 s1 3 (by omega) (by omega) (by omega)
      obtain ⟨ys, y1, y3⟩ := ih b2 s2 (xs.set x.toNat y) (by omega) (by rw [List.length_set]; exact h1) (by omega) (by omega)
      rw [List.length_set] at y1
      have hx : x < (xs.length : Int) := by omega
      have en : ((n + 1 : Nat) : Int) - 1 = (n : Int) := by omega
      refine ⟨ys, y1, Ev.step (fun k => by rw [spec_DrawMergePhotos.l0, if_pos (by omega)]) (Ev.step (fun k => ?_) y3)⟩
      rw [decide_eq_true c0, spec_DrawMergePhotos.j1, if_pos rfl, e1, Option.bind_some]
      dsimp only
      rw [e2, Option.bind_some]
      dsimp only
      rw [if_pos x0, if_pos hx, wrap_id (((n + 1 : Nat) : Int) - 1) (by omega) (by omega), en]
    · refine ⟨xs, rfl, Ev.step (fun k => by rw [spec_DrawMergePhotos.l0, if_pos (by omega)]) (Ev.step (f := fun _ => some (w, h, l, w2, h2, l2, cw, ch, xs)) (fun k => ?_) (Ev.now _))⟩
      rw [decide_eq_false c0, spec_DrawMergePhotos.j1, if_neg (by decide)]
theorem drawnMerge (code : List Int) (hc : codeOk code) : ∃ (w h : Int) (l : List Int) (w2 h2 : Int) (l2 : List Int) (w3 h3 : Int) (l3 : List Int), l.length ≤ 100 ∧ l2.length ≤ 100 ∧ l3.length ≤ 100 ∧ Ev (fun k => spec_DrawMergePhotos.f k code) (w, h, l, w2, h2, l2, w3, h3, l3) := by
  obtain ⟨w, h, l, w2, h2, l2, a, s, q1, q2, q4, q3⟩ := photo_ok code hc
  obtain ⟨x, b, t, e, x0, x1, u1, v1⟩ := pick_ok code hc a s 4 q4.1 (by omega) (by omega)
  obtain ⟨n, rfl⟩ := Int.eq_ofNat_of_zero_le x0
  obtain ⟨ys, y1, y2⟩ := merge_l0 code hc w h l w2 h2 l2 w2 h2 n b t l2 (by omega) q2 (by omega) (by omega)
  refine ⟨w, h, l, w2, h2, l2, w2, h2, ys, q1, q2, by omega, ?_⟩
  unfold spec_DrawMergePhotos.f
  refine Ev.bind q3 ?_
  simp only [own_eq _ _ _ (show l2.length ≤ 2000000 by omega), e, Option.bind_some]
  exact y2
def mergeV (l l1 l2 : List Int) (j : Nat) : Int := if l1.getD j 0 = l2.getD j 0 then l1.getD j 0 else l.getD j 0
theorem specMerge_loop (w h : Int) (l : List Int) (w1 h1 : Int) (l1 : List Int) (w2 h2 : Int) (l2 : List Int) (hl : l.length ≤ 2000000) (e1 : l1.length = l.length) (e2 : l2.length = l.length) : Ev (fun k => spec_MergePhotos.l0 k 0 w1 h1 l1 w2 h2 l2 w h l) (w, h, preV (mergeV l l1 l2) l.length, true) := by
  obtain ⟨r, hr, hh⟩ := Ev.loopE (fun k i (s : List Int) => spec_MergePhotos.l0 k i w1 h1 l1 w2 h2 l2 w h s) l.length (fun i s => s.length = l.length ∧ (∀ j, j < i → s.getD j 0 = mergeV l l1 l2 j) ∧ ∀ j, i ≤ j → s.getD j 0 = l.getD j 0) (fun r => r = (w, h, preV (mergeV l l1 l2) l.length, true))
    (fun s hs => by
      obtain ⟨s1, s2, _⟩ := hs
      have e : s = preV (mergeV l l1 l2) l.length := ext_getD 0 _ _ (by rw [preV_len, s1]) (fun j hj => by rw [preV_getD _ _ _ (by omega)]; exact s2 j (by omega))
      subst e
      exact ⟨_, rfl, Ev.step (f := fun _ => some _) (fun k => by rw [spec_MergePhotos.l0, if_neg (by rw [s1]; omega)]) (Ev.now _)⟩)
    (fun i s hi hs => by
      obtain ⟨s1, s2, s3⟩ := hs
      have r1 : rd l1 (i : Int) = l1.getD i 0 := rfl
      have r2 : rd l2 (i : Int) = l2.getD i 0 := rfl
      by_cases c : l1.getD i 0 = l2.getD i 0
      · refine ⟨s.set i (l1.getD i 0), ⟨by simp [s1], fun j hj => ?_, fun j hj => ?_⟩, fun r h => Ev.step (fun k => ?_) h⟩
        · rw [getD_set]
          by_cases e : i = j
          · subst e
            rw [if_pos ⟨rfl, by omega⟩]
            unfold mergeV
            rw [if_pos c]
          · rw [if_neg (fun h => e h.1)]
            exact s2 j (by omega)
        · rw [getD_set, if_neg (fun h => by omega)]
          exact s3 j (by omega)
        · rw [spec_MergePhotos.l0, if_pos (by omega), if_pos (by omega), if_pos (by omega), if_pos (by omega), r1, r2, if_pos c, Int.toNat_natCast, wrap_id ((i : Int) + 1) (by omega) (by omega)]
      · refine ⟨s, ⟨s1, fun j hj => ?_, fun j hj => s3 j (by omega)⟩, fun r h => Ev.step (fun k => ?_) h⟩
        · by_cases e : j = i
          · subst e
            unfold mergeV
            rw [if_neg c]
            exact s3 j (Nat.le_refl _)
          · exact s2 j (by omega)
        · rw [spec_MergePhotos.l0, if_pos (by omega), if_pos (by omega), if_pos (by omega), if_pos (by omega), r1, r2, if_neg c, wrap_id ((i : Int) + 1) (by omega) (by omega)]) l ⟨rfl, fun j hj => absurd hj (by omega), fun _ _ => rfl⟩
  subst hr
  exact hh
def okThree (w h : Int) (l : List Int) (w1 h1 : Int) (l1 : List Int) (w2 h2 : Int) (l2 : List Int) : Bool := okChart w h l && ((okChart w1 h1 l1 && (w1 == w && h1 == h)) && (okChart w2 h2 l2 && (w2 == w && h2 == h)))
theorem three_eq (w h : Int) (l : List Int) (w1 h1 : Int) (l1 : List Int) (w2 h2 : Int) (l2 : List Int) : impl_isSameSize.two w h l w1 h1 l1 w2 h2 l2 = some (okThree w h l w1 h1 l1 w2 h2 l2) := by
  unfold impl_isSameSize.two okThree
  simp only [IsChart_eq, Option.bind_some]
theorem size_ev (w h : Int) (l : List Int) (w1 h1 : Int) (l1 : List Int) (hl : l.length ≤ 2000000) (hl1 : l1.length ≤ 2000000) : Ev (fun k => spec_l13Size.f k w h l w1 h1 l1) (okChart w h l && (okChart w1 h1 l1 && (w1 == w && h1 == h))) := by
  unfold spec_l13Size.f
  refine Ev.bind (l2Good_ev w h l hl) ?_
  cases okChart w h l with
  | false => simp only [Bool.false_eq_true, if_false, Bool.false_and]; exact Ev.now _
  | true =>
    simp only [if_true, Bool.true_and]
    refine Ev.bind (l2Good_ev w1 h1 l1 hl1) ?_
    cases okChart w1 h1 l1 with
    | false => simp only [Bool.false_eq_true, if_false, Bool.false_and]; exact Ev.now _
    | true =>
      simp only [if_true, Bool.true_and]
      by_cases e : w = w1
      · simp only [if_pos e]
        have e3 : (w1 == w && h1 == h) = (h == h1) := by
          rw [Bool.eq_iff_iff]
          simp only [Bool.and_eq_true, beq_iff_eq]
          omega
        rw [e3]
        exact Ev.now _
      · simp only [if_neg e]
        have e3 : (w1 == w && h1 == h) = false := by
          rw [beq_eq_false_iff_ne.2 (fun h => e h.symm)]
          rfl
        rw [e3]
        exact Ev.now _
theorem MergePhotos_same (w h : Int) (l : List Int) (w1 h1 : Int) (l1 : List Int) (w2 h2 : Int) (l2 : List Int) (hl : l.length ≤ 2000000) (hl1 : l1.length ≤ 2000000) (hl2 : l2.length ≤ 2000000) :
    ∃ r : Int × Int × List Int × Bool, r.2.2.1.length ≤ 100 ∧ Ev (fun k => spec_MergePhotos.f k w h l w1 h1 l1 w2 h2 l2) r ∧ Ev (fun k => impl_MergePhotos.f k w h l w1 h1 l1 w2 h2 l2) r := by
  have no1 : Ev (fun k => spec_MergePhotos.j0 k true w h l w1 h1 l1 w2 h2 l2) (0, 0, [], false) := Ev.step (fun k => by rw [spec_MergePhotos.j0, if_pos rfl]) (Ev.now _)
  have S1 := size_ev w h l w1 h1 l1 hl hl1
  have S2 := size_ev w h l w2 h2 l2 hl hl2
  unfold spec_MergePhotos.f impl_MergePhotos.f
  simp only [three_eq, Option.bind_some]
  cases hk : okThree w h l w1 h1 l1 w2 h2 l2 with
  | false =>
    refine ⟨(0, 0, [], false), by simp, Ev.bind S1 ?_, by simp only [Bool.false_eq_true, if_false]; exact Ev.now _⟩
    unfold okThree at hk
    cases ha : (okChart w h l && (okChart w1 h1 l1 && (w1 == w && h1 == h))) with
    | false => simp only [Bool.false_eq_true, if_false]; exact no1
    | true =>
      simp only [if_true]
      refine Ev.bind S2 ?_
      rw [Bool.and_eq_true] at ha
      rw [ha.1, ha.2] at hk
      simp only [Bool.true_and] at hk
      rw [ha.1, hk]
      exact no1
  | true =>
    have hk0 := hk
    unfold okThree at hk
    simp only [Bool.and_eq_true, beq_iff_eq] at hk
    obtain ⟨k0, ⟨k1, rfl, rfl⟩, k2, rfl, rfl⟩ := hk
    obtain ⟨_, hw, hh, hlen, h64⟩ := okChart_iff _ _ l k0
    obtain ⟨_, _, _, hlen1, _⟩ := okChart_iff _ _ l1 k1
    obtain ⟨_, _, _, hlen2, _⟩ := okChart_iff _ _ l2 k2
    obtain ⟨W, rfl⟩ := Int.eq_ofNat_of_zero_le (show 0 ≤ w2 by omega)
    obtain ⟨H, rfl⟩ := Int.eq_ofNat_of_zero_le (show 0 ≤ h2 by omega)
    have hHW : l.length = H * W := by
      have : ((H * W : Nat) : Int) = (W : Int) * (H : Int) := by rw [Int.natCast_mul, Int.mul_comm]
      omega
    refine ⟨((W : Int), (H : Int), preV (mergeV l l1 l2) l.length, true), by dsimp only; rw [preV_len]; omega, Ev.bind S1 ?_, ?_⟩
    · simp only [k0, k1, k2, beq_self_eq_true, Bool.and_self, if_true]
      refine Ev.bind S2 ?_
      simp only [k0, k2, beq_self_eq_true, Bool.and_self, Bool.not_true]
      refine Ev.step (f := fun k => spec_MergePhotos.l0 k 0 (W : Int) (H : Int) l1 (W : Int) (H : Int) l2 (W : Int) (H : Int) l) (fun k => ?_) (specMerge_loop _ _ l _ _ l1 _ _ l2 hl (by omega) (by omega))
      rw [spec_MergePhotos.j0, if_neg (by decide), own_eq _ _ l hl, Option.bind_some]
    · simp only [if_true]
      have hm := mkList (ofMerge (W : Int) (H : Int) l (W : Int) (H : Int) l1 (W : Int) (H : Int) l2) (mergeV l l1 l2) W H (by omega) (by omega) (fun r c hr hc => by
        have e : ∀ x : List Int, rd x ((r : Int) * (W : Int) + (c : Int)) = x.getD (r * W + c) 0 := fun x => by
          have : ((r : Int) * (W : Int) + (c : Int)) = ((r * W + c : Nat) : Int) := by rw [Int.natCast_add, Int.natCast_mul]
          rw [this]
          rfl
        unfold ofMerge
        rw [implAt_eq _ _ l1 k1 (r : Int) (c : Int) ⟨by omega, by omega⟩ ⟨by omega, by omega⟩, implAt_eq _ _ l2 k2 (r : Int) (c : Int) ⟨by omega, by omega⟩ ⟨by omega, by omega⟩, implAt_eq _ _ l k0 (r : Int) (c : Int) ⟨by omega, by omega⟩ ⟨by omega, by omega⟩]
        simp only [Option.bind_some, e]
        unfold mergeV
        split <;> rfl)
      refine Ev.bind hm ?_
      simp only [and_self, if_true, hHW]
      exact Ev.now _
theorem vInts_ev (l : List Int) (hl : l.length ≤ 1000) : Ev (fun k => laws_vInts.f k l l) true := by
  refine Ev.congr (f := fun k => laws_vInts.l0 k l l 0) (fun k => by unfold laws_vInts.f; rw [if_pos rfl]) ?_
  obtain ⟨r, hr, h⟩ := Ev.loopE (fun k i (_ : Unit) => laws_vInts.l0 k l l i) l.length (fun _ _ => True) (fun r => r = true)
    (fun s _ => ⟨true, rfl, Ev.step (f := fun _ => some true) (fun k => by rw [laws_vInts.l0, if_neg (by omega)]) (Ev.now true)⟩)
    (fun i s hi _ => ⟨(), trivial, fun r h => Ev.step (fun k => by rw [laws_vInts.l0, if_pos (by omega), if_pos (by omega), if_pos (by omega), if_pos rfl, wrap_id _ (by omega) (by omega)]) h⟩) () trivial
  subst hr
  exact h
theorem vChart_ev (w h : Int) (l : List Int) (hl : l.length ≤ 1000) : Ev (fun k => laws_vChart.f k w h l w h l) true := by
  unfold laws_vChart.f
  simp only [if_true]
  exact Ev.bind (vInts_ev l hl) (Ev.now _)
theorem FnShifts (l0 : List (Int)) (q_l0 : (l0.length ≤ maxLen ∧ ∀ q ∈ l0, (Lit.int .u8 q).wf = true)) : ∃ k, laws_FnShifts.f k l0 = some true := by
  by_cases hb : (l0.length : Int) > 65536
  · refine ⟨0, ?_⟩
    unfold laws_FnShifts.f laws_vBig.f
    rw [Option.bind_some, decide_eq_true hb, if_pos rfl]
  · have hc : codeOk l0 := codeOk_of l0 (by omega) q_l0.2
    have fin : Ev (fun k => laws_FnShifts.f k l0) true := by
      have j8 : Ev (fun k => laws_FnShifts.j7 k l0) true := by
        obtain ⟨w, h, l, w2, h2, l2, w3, h3, l3, q1, q2, q3, d1⟩ := drawnMerge l0 hc
        obtain ⟨r, hr, s1, s2⟩ := MergePhotos_same w h l w2 h2 l2 w3 h3 l3 (by omega) (by omega) (by omega)
        refine Ev.step (fun k => by rw [laws_FnShifts.j7]) (Ev.bind d1 (Ev.bind s2 (Ev.bind s1 ?_)))
        simp only [beq_self_eq_true, if_true]
        exact Ev.bind (vChart_ev _ _ _ (by omega)) (Ev.now _)
      have j6 : Ev (fun k => laws_FnShifts.j5 k l0 false) true := by
        obtain ⟨w, h, l, d, a, c, q1, d1⟩ := drawnShift l0 hc
        obtain ⟨r, hr, s1, s2⟩ := ShiftPhoto_same w h l d a c (by omega)
        refine Ev.step (fun k => by rw [laws_FnShifts.j5, if_neg (by decide)]) (Ev.bind d1 (Ev.bind s2 (Ev.bind s1 ?_)))
        simp only [bne_self_eq_false, Bool.false_eq_true, if_false]
        refine Ev.bind (vChart_ev _ _ _ (by omega)) ?_
        simp only [Bool.not_true]
        by_cases hf : r.2.2.2 = true
        · by_cases hk : okChart w h l = true ∧ (-2 ≤ d ∧ d ≤ 2) ∧ (-2 ≤ a ∧ a ≤ 2) ∧ 0 ≤ c ∧ c ≤ 5
          · obtain ⟨k0, k1, k2, k3⟩ := hk
            have e := Ev.uniq s2 (ShiftPhoto_val w h l d a c k0 k1 k2 k3)
            have D := DifferencesAt_val w h (preV (shL w h l d a c w.toNat) (h.toNat * w.toNat)) w h l d a (shifted_ok w h l d a c k0 k3) k0 k1 k2
            rw [shifted_same w h l d a c k0] at D
            rw [e]
            refine Ev.step (fun k => by rw [laws_FnShifts.j6, if_neg (by decide), if_pos rfl]) (Ev.bind D ?_)
            simp only [if_true, List.length_nil, Int.natCast_zero]
            exact j8
          · exfalso
            have e2 : impl_isColor.f c = some (rng c 0 5) := by unfold impl_isColor.f; rw [in_eq]; rfl
            have : Ev (fun k => impl_ShiftPhoto.f k w h l d a c) (0, 0, [], false) := by
              unfold impl_ShiftPhoto.f
              simp only [IsChart_eq, isShift_eq, e2, Option.bind_some]
              cases h0 : okChart w h l with
              | false => simp only [Bool.false_eq_true, if_false]; exact Ev.now _
              | true =>
                cases h1 : (rng d (-2) 2 && rng a (-2) 2) with
                | false => simp only [Bool.false_eq_true, if_false, if_true]; exact Ev.now _
                | true =>
                  cases h2 : rng c 0 5 with
                  | false => simp only [Bool.false_eq_true, if_false, if_true]; exact Ev.now _
                  | true =>
                    rw [Bool.and_eq_true, rng_iff, rng_iff] at h1
                    exact absurd ⟨h0, h1.1, h1.2, (rng_iff _ _ _).1 h2⟩ hk
            rw [Ev.uniq s2 this] at hf
            cases hf
        · simp only [Bool.not_eq_true] at hf
          rw [hf]
          exact Ev.step (fun k => by rw [laws_FnShifts.j6, if_neg (by decide), if_neg (by decide)]) j8
      have j5 : Ev (fun k => laws_FnShifts.j4 k l0) true := by
        obtain ⟨w, h, l, w2, h2, l2, p, q1, q2, d1⟩ := drawnPiece l0 hc
        obtain ⟨r, s1, s2⟩ := IsSamePiece_same w h l w2 h2 l2 p (by omega) (by omega)
        refine Ev.step (fun k => by rw [laws_FnShifts.j4]) (Ev.bind d1 (Ev.bind s2 (Ev.bind s1 ?_)))
        simp only [bne_self_eq_false, Bool.false_eq_true, if_false]
        exact j6
      obtain ⟨w, h, l, w2, h2, l2, q1, q2, d1⟩ := drawnBest l0 hc
      obtain ⟨a, b, ok, s1, s2, hok⟩ := BestShift_all w h l w2 h2 l2 (by omega) (by omega)
      have j0 : Ev (fun k => laws_FnShifts.j0 k l0 a b ok false w h l w2 h2 l2) true := by
        cases ok with
        | false => exact Ev.step (fun k => by rw [laws_FnShifts.j0, if_neg (by decide), if_neg (by decide)]) j5
        | true =>
          obtain ⟨k0, k1, ha, hb2, hsu, hm, hall⟩ := hok rfl
          have D := DifferencesAt_val w h l w2 h2 l2 a b k0 k1 ha hb2
          obtain ⟨n, hn⟩ : ∃ n, n = ((wrongF w h l w2 h2 l2 a b).1.length : Int) := ⟨_, rfl⟩
          obtain ⟨m, hmm⟩ : ∃ m, m = (wrongF w h l w2 h2 l2 a b).2 := ⟨_, rfl⟩
          have hm1 : 0 ≤ n ∧ n ≤ 64 := by rw [hn]; exact hm.1
          have hm2 : 0 < m ∧ m ≤ 64 := by rw [hmm]; exact hm.2
          have hsu2 : ¬ wrap64 (2 * m) < (l.length : Int) := by
            rw [wrap_id _ (by omega) (by omega)]
            unfold suitM at hsu
            rw [hmm]
            omega
          rw [← hn, ← hmm] at D
          have row : ∀ x : Int, -2 ≤ x → x ≤ 2 → ∀ (d j : Nat), j + d = 5 → Ev (fun k => laws_FnShifts.l0 k l0 n m (x + 1) w h l w2 h2 l2) true → Ev (fun k => laws_FnShifts.l1 k l0 n m x ((j : Int) - 2) w h l w2 h2 l2) true := by
            intro x x1 x2 d
            induction d with
            | zero =>
              intro j hj hnext
              exact Ev.step (fun k => by rw [laws_FnShifts.l1, if_neg (by omega), wrap_id (x + 1) (by omega) (by omega)]) hnext
            | succ d ih =>
              intro j hj hnext
              have G := ih (j + 1) (by omega) hnext
              have ej : ((j + 1 : Nat) : Int) - 2 = (j : Int) - 2 + 1 := by omega
              rw [ej] at G
              have D2 := DifferencesAt_val w h l w2 h2 l2 x ((j : Int) - 2) k0 k1 ⟨x1, x2⟩ ⟨by omega, by omega⟩
              obtain ⟨g1, g2, g3⟩ := wrongF_small w h l w2 h2 l2 x ((j : Int) - 2) k0
              have hle : suitM w h l w2 h2 l2 x ((j : Int) - 2) → n * (wrongF w h l w2 h2 l2 x ((j : Int) - 2)).2 ≤ ((wrongF w h l w2 h2 l2 x ((j : Int) - 2)).1.length : Int) * m := by
                intro hu
                have := hall x ((j : Int) - 2) x1 x2 (by omega) (by omega) hu
                unfold leM matchAt at this
                dsimp only at this
                rw [← hn, ← hmm] at this
                exact this
              obtain ⟨n2, hn2⟩ : ∃ n2, n2 = ((wrongF w h l w2 h2 l2 x ((j : Int) - 2)).1.length : Int) := ⟨_, rfl⟩
              obtain ⟨m2, hm2'⟩ : ∃ m2, m2 = (wrongF w h l w2 h2 l2 x ((j : Int) - 2)).2 := ⟨_, rfl⟩
              have hn3 : 0 ≤ n2 ∧ n2 ≤ 64 := by omega
              have hm3 : 0 ≤ m2 ∧ m2 ≤ 64 := by omega
              unfold suitM at hle
              rw [← hn2, ← hm2'] at D2
              rw [← hn2, ← hm2'] at hle
              refine Ev.step (fun k => by rw [laws_FnShifts.l1, if_pos (by omega)]) (Ev.bind D2 ?_)
              simp only [if_true]
              rw [wrap_id (2 * m2) (by omega) (by omega)]
              by_cases c : 2 * m2 ≥ (l.length : Int)
              · simp only [if_pos c]
                have h4 := hle (by omega)
                have p1 := mul_small n2 m ⟨hn3.1, by omega⟩ ⟨by omega, hm2.2⟩
                have p2 := mul_small n m2 ⟨hm1.1, by omega⟩ ⟨hm3.1, hm3.2⟩
                rw [wrap_id (n2 * m) (by omega) (by omega), wrap_id (n * m2) (by omega) (by omega), wrap_id ((j : Int) - 2 + 1) (by omega) (by omega)]
                simp only [if_neg (show ¬ n2 * m < n * m2 by omega)]
                exact G
              · simp only [if_neg c]
                rw [wrap_id ((j : Int) - 2 + 1) (by omega) (by omega)]
                exact G
          have all : ∀ (d j : Nat), j + d = 5 → Ev (fun k => laws_FnShifts.l0 k l0 n m ((j : Int) - 2) w h l w2 h2 l2) true := by
            intro d
            induction d with
            | zero =>
              intro j hj
              exact Ev.step (fun k => by rw [laws_FnShifts.l0, if_neg (by omega)]) j5
            | succ d ih =>
              intro j hj
              have G := ih (j + 1) (by omega)
              have ej : ((j + 1 : Nat) : Int) - 2 = (j : Int) - 2 + 1 := by omega
              rw [ej] at G
              have R := row ((j : Int) - 2) (by omega) (by omega) 5 0 (by omega) G
              exact Ev.step (fun k => by rw [laws_FnShifts.l0, if_pos (by omega)]; rfl) R
          have A := all 5 0 (by omega)
          refine Ev.step (fun k => by rw [laws_FnShifts.j0, if_neg (by decide), if_pos rfl]) (Ev.bind D ?_)
          simp only [if_true]
          rw [decide_eq_false hsu2]
          exact Ev.step (fun k => by rw [laws_FnShifts.j1, if_neg (by decide)]; rfl) A
      unfold laws_FnShifts.f laws_vBig.f
      simp only [Option.bind_some, decide_eq_false hb, Bool.false_eq_true, if_false]
      refine Ev.bind d1 (Ev.bind s2 (Ev.bind s1 ?_))
      simp only [if_true, bne_self_eq_false]
      exact j0
    obtain ⟨K, hK⟩ := fin
    exact ⟨K, hK K (Nat.le_refl _)⟩
end Go.Proofs.Ytcjalfgnnabghaa.Pure
