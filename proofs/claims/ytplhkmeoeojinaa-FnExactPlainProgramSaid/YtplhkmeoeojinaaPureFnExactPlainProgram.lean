/- The plain law of FnExactPlainProgram: what the program's functions compute is what the reference's compute. No program and no memory in it. -/
import Derived.Test.YtplhkmeoeojinaaHx9
import Derived.Test.YtplhkmeoeojinaaLps
namespace Go.Proofs.Ytplhkmeoeojinaa.Pure
open Go.RowKit Go.Proofs.YtplhkmeoeojinaaW.PrintWords Go.Proofs.YtplhkmeoeojinaaW.PrintLast Go.Proofs.Ytplhkmeoeojinaa.H
set_option linter.unusedVariables false
set_option linter.unusedSimpArgs false
theorem l1In_eq (a b c : Int) : spec_l1In.f a b c = some (rng a b c) := spec_l1In.eq a b c
theorem in_eq (a b c : Int) : impl_in.f a b c = some (rng a b c) := impl_in.eq a b c
theorem ext_getD {α : Type} (z : α) (a b : List α) (hl : a.length = b.length) (h : ∀ j, j < a.length → a.getD j z = b.getD j z) : a = b := by
  apply List.ext_getElem hl
  intro j h1 h2
  have := h j h1
  rwa [List.getD_eq_getElem?_getD, List.getD_eq_getElem?_getD, List.getElem?_eq_getElem h1, List.getElem?_eq_getElem h2] at this
theorem take_succ_getD {α : Type} (z : α) (a : List α) (i : Nat) (h : i < a.length) : a.take (i + 1) = a.take i ++ [a.getD i z] := by
  rw [List.take_succ_eq_append_getElem h, List.getD_eq_getElem?_getD, List.getElem?_eq_getElem h]
  rfl
theorem getD_map' {α β : Type} (f : α → β) (z : α) (y : β) (a : List α) (i : Nat) (h : i < a.length) : (a.map f).getD i y = f (a.getD i z) := by
  rw [List.getD_eq_getElem?_getD, List.getElem?_map, List.getD_eq_getElem?_getD, List.getElem?_eq_getElem h]
  rfl
theorem set_mid {α : Type} (f : α → α) (z : α) (a : List α) (i : Nat) (h : i < a.length) : ((a.take i).map f ++ a.drop i).set i (f (a.getD i z)) = (a.take (i + 1)).map f ++ a.drop (i + 1) := by
  have e : a.drop i = a.getD i z :: a.drop (i + 1) := by
    rw [List.drop_eq_getElem_cons h, List.getD_eq_getElem?_getD, List.getElem?_eq_getElem h]
    rfl
  rw [e, take_succ_getD z a i h, List.map_append, List.append_assoc]
  have hl : ((a.take i).map f).length = i := by rw [List.length_map, List.length_take]; omega
  rw [List.set_append_right _ _ (by omega), hl, Nat.sub_self]
  rfl
theorem mid_getD {α : Type} (f : α → α) (z : α) (a : List α) (i : Nat) (h : i < a.length) : ((a.take i).map f ++ a.drop i).getD i z = a.getD i z := by
  have hl : ((a.take i).map f).length = i := by rw [List.length_map, List.length_take]; omega
  rw [List.getD_eq_getElem?_getD, List.getElem?_append_right (by omega), hl, Nat.sub_self, List.getElem?_drop, Nat.add_zero, List.getD_eq_getElem?_getD]
theorem mid_length {α : Type} (f : α → α) (a : List α) (i : Nat) : ((a.take i).map f ++ a.drop i).length = a.length := by
  rw [List.length_append, List.length_map, List.length_take, List.length_drop]; omega
def okChart (w h : Int) (l : List Int) : Bool := (l.all fun x => rng x 0 5) && (rng w 1 8 && (rng h 1 8 && ((l.length : Int) == wrap64 (w * h))))
theorem okChart_iff (w h : Int) (l : List Int) (hk : okChart w h l = true) : (∀ i, i < l.length → 0 ≤ l.getD i 0 ∧ l.getD i 0 ≤ 5) ∧ (1 ≤ w ∧ w ≤ 8) ∧ (1 ≤ h ∧ h ≤ 8) ∧ (l.length : Int) = w * h ∧ l.length ≤ 64 := by
  unfold okChart at hk
  simp only [Bool.and_eq_true, rng_iff, beq_iff_eq] at hk
  obtain ⟨h1, h2, h3, h4⟩ := hk
  have p0 : 0 ≤ w * h := Int.mul_nonneg (by omega) (by omega)
  have p1 : w * h ≤ 8 * 8 := Int.mul_le_mul h2.2 h3.2 (by omega) (by omega)
  rw [wrap_id _ (by omega) (by omega)] at h4
  refine ⟨fun i hi => ?_, h2, h3, h4, by omega⟩
  have := (all_getD 0 l _).1 h1 i hi
  exact (rng_iff _ _ _).1 this
theorem l2Good_ev (w h : Int) (l : List Int) (hl : l.length ≤ 2000000) : Ev (fun k => spec_l2Good.f k w h l) (okChart w h l) := by
  unfold spec_l2Good.f
  have e : okChart w h l = ((List.range l.length).all (fun i => rng (l.getD i 0) 0 5) && (rng w 1 8 && (rng h 1 8 && ((l.length : Int) == wrap64 (w * h))))) := by
    unfold okChart
    congr 1
    rw [Bool.eq_iff_iff, all_getD 0, all_range]
  rw [e]
  refine Ev.scan (fun k i => spec_l2Good.l0 k i w h l) l.length _ _ (Ev.step (f := fun _ => some _) (fun k => ?_) (Ev.now _)) ?_ ?_
  · rw [spec_l2Good.l0, if_neg (by omega)]
    unfold spec_l2Side.f
    simp only [l1In_eq, Option.bind_some]
    cases rng w 1 8 <;> cases rng h 1 8 <;> rfl
  · intro i hi hg
    refine Ev.step (f := fun _ => some false) (fun k => ?_) (Ev.now _)
    rw [spec_l2Good.l0, if_pos (by omega), if_pos (by omega)]
    unfold spec_l2Color.f
    have e0 : rd l (i : Int) = l.getD i 0 := rfl
    rw [l1In_eq, e0, hg]
    rfl
  · intro i r hi hg hr
    refine Ev.step (fun k => ?_) hr
    rw [spec_l2Good.l0, if_pos (by omega), if_pos (by omega)]
    unfold spec_l2Color.f
    have e0 : rd l (i : Int) = l.getD i 0 := rfl
    rw [l1In_eq, e0, hg, wrap_id _ (by omega) (by omega)]
    rfl
theorem IsChart_eq (w h : Int) (l : List Int) : impl_IsChart.f w h l = some (okChart w h l) := by
  unfold impl_IsChart.f impl_isSide.f areAll_impl_isColor.f okChart
  simp only [in_eq, Option.bind_some]
  by_cases e : (l.length : Int) = wrap64 (w * h)
  · rw [if_pos e, beq_iff_eq.2 e]
    cases rng w 1 8 <;> cases rng h 1 8 <;> simp
  · rw [if_neg e, beq_eq_false_iff_ne.2 e]
    cases rng w 1 8 <;> cases rng h 1 8 <;> simp
theorem szChart1 (w h : Int) (l : List Int) (hk : ¬ (l.length : Int) ≤ 1048576) (hm : l.length ≤ maxLen) : laws_szChart.f w h l 1048576 = some (-1) := by
  have hm' : l.length ≤ 9223372036854775807 := hm
  unfold laws_szChart.f laws_szIntS.f
  rw [wrap_id _ (by omega) (by omega), if_pos (by omega)]
  rfl
theorem szChart2 (w h : Int) (l : List Int) (hk : (l.length : Int) ≤ 1048576) : laws_szChart.f w h l 1048576 = some (1048576 - (l.length : Int)) := by
  unfold laws_szChart.f laws_szIntS.f
  rw [wrap_id _ (by omega) (by omega), if_neg (by omega), Option.bind_some, if_neg (by omega)]
theorem toInts_ev (l : List Int) (hl : l.length ≤ 2000000) : ∃ t : List Int, t.length = l.length ∧ Ev (fun k => laws_toIntS.f k l) t := by
  obtain ⟨r, hr, h⟩ := Ev.loopE (fun k i (s : List Int) => laws_toIntS.l0 k l s i) l.length (fun _ s => s.length = l.length) (fun r => r.length = l.length)
    (fun s hs => ⟨s, hs, Ev.step (fun k => by rw [laws_toIntS.l0, if_neg (by omega)]) (Ev.now s)⟩)
    (fun i s hi hs => ⟨s.set i (rd l i), by simp [hs], fun r h => Ev.step (fun k => by
      rw [laws_toIntS.l0, if_pos (by omega), if_pos (by omega), if_pos (by omega), wrap_id _ (by omega) (by omega), Int.toNat_natCast]) h⟩) (List.replicate l.length 0) (by simp)
  refine ⟨r, hr, Ev.congr (fun k => ?_) h⟩
  unfold laws_toIntS.f
  rw [if_pos (by omega), if_pos (by omega), Int.toNat_natCast]
theorem toChart_ev (w h : Int) (l : List Int) (hl : l.length ≤ 2000000) : ∃ t : List Int, t.length = l.length ∧ Ev (fun k => laws_toChart.f k w h l) (w, h, t) := by
  obtain ⟨t, ht, hv⟩ := toInts_ev l hl
  exact ⟨t, ht, by unfold laws_toChart.f; exact Ev.bind hv (Ev.now _)⟩
abbrev SD' := S72
def outL (L : List SD') (n c : Int) : List SD' := if (L.length : Int) = 0 then L ++ [⟨1, n, 1, c⟩] else (L ++ [⟨1, n, 1, c⟩]) ++ [⟨4, 0, 0, 0⟩]
theorem outL_length (L : List SD') (n c : Int) : 0 < (outL L n c).length ∧ (outL L n c).length ≤ L.length + 2 := by
  unfold outL
  split <;> simp
theorem specP_out (w h : Int) (l : List Int) (L : List SD') (n i : Int) (hi1 : 1 ≤ i) (hi2 : i ≤ 100) (hil : i ≤ (l.length : Int)) (hL : L.length ≤ 1000) (c : Int) (hc : rd l (i - 1) = c) (r : List SD' × Bool) (hr : Ev (fun k => spec_PlainProgram.l0 k (outL L n c) 1 (i + 1) w h l) r) : Ev (fun k => spec_PlainProgram.j2 k L n i false w h l) r := by
  refine Ev.step (fun k => ?_) hr
  rw [spec_PlainProgram.j2, if_neg (by decide), wrap_id (i - 1) (by omega) (by omega), if_pos (by omega), if_pos (by omega), if_pos (by omega), hc, Option.bind_some, wrap_id (i + 1) (by omega) (by omega)]
  unfold outL
  by_cases e : (L.length : Int) = 0
  · rw [if_pos e, if_pos e]
  · rw [if_neg e, if_neg e, if_pos (by rw [List.length_append]; simp; omega)]
theorem implP_out (w h : Int) (l : List Int) (L : List SD') (b i : Int) (hb : 0 ≤ b) (hb2 : b ≤ 100) (hbl : b < (l.length : Int)) (hi1 : 1 ≤ i) (hi2 : i ≤ 100) (hL : L.length ≤ 1000) (h0 : (L.length : Int) = 0 ↔ b = 0) (c : Int) (hc : rd l b = c) (hout : ¬ i < w ∨ (0 ≤ i ∧ i < (l.length : Int) ∧ rd l i ≠ c)) (r : List SD' × Bool) (hr : Ev (fun k => impl_PlainProgram.l0 k (outL L (i - b) c) i w h l) r) : Ev (fun k => impl_PlainProgram.l1 k L b i w h l) r := by
  refine Ev.step (fun k => ?_) hr
  have hlast : (if L.length < 4398046511104 then ((some (L ++ [(⟨1, wrap64 (i - b), 1, rd l b⟩ : SD')] : List SD')).bind fun y308 => (if b > 0 then (if y308.length < 4398046511104 then (impl_PlainProgram.l0 k (y308 ++ [(⟨4, 0, 0, 0⟩ : SD')]) i w h l) else (none)) else (impl_PlainProgram.l0 k y308 i w h l))) else (none)) = impl_PlainProgram.l0 k (outL L (i - b) c) i w h l := by
    rw [if_pos (by omega), Option.bind_some, wrap_id (i - b) (by omega) (by omega), hc]
    unfold outL
    by_cases e : (L.length : Int) = 0
    · rw [if_pos e, if_neg (by have := h0.1 e; omega)]
    · rw [if_neg e, if_pos (by have : ¬ b = 0 := fun hb => e (h0.2 hb); omega), if_pos (by rw [List.length_append]; simp; omega)]
  rw [impl_PlainProgram.l1]
  rcases hout with h1 | ⟨h1, h2, h3⟩
  · rw [if_neg h1, if_pos hb, if_pos hbl]
    exact hlast
  · by_cases hiw : i < w
    · rw [if_pos hiw, if_pos h1, if_pos h2, if_pos hb, if_pos hbl, if_neg (by rw [hc]; exact h3)]
      exact hlast
    · rw [if_neg hiw, if_pos hb, if_pos hbl]
      exact hlast
theorem PlainProgram_same (w h : Int) (l : List Int) (hl : l.length ≤ 2000000) : ∃ r : List SD' × Bool, r.1.length ≤ 1000 ∧ Ev (fun k => spec_PlainProgram.f k w h l) r ∧ Ev (fun k => impl_PlainProgram.f k w h l) r := by
  unfold spec_PlainProgram.f impl_PlainProgram.f
  simp only [IsChart_eq, Option.bind_some]
  have no1 : Ev (fun k => spec_PlainProgram.j0 k [] true w h l) ([], false) := Ev.step (fun k => by rw [spec_PlainProgram.j0, if_pos rfl]) (Ev.now _)
  have no2 : Ev (fun k => impl_PlainProgram.j0 k true w h l) ([], false) := Ev.step (fun k => by rw [impl_PlainProgram.j0, if_pos rfl]) (Ev.now _)
  cases hk : okChart w h l with
  | false =>
    refine ⟨([], false), Nat.zero_le _, Ev.bind (l2Good_ev w h l hl) ?_, ?_⟩
    · simp only [hk, Bool.false_eq_true, if_false]; exact no1
    · simp only [Bool.false_eq_true, if_false]; exact no2
  | true =>
    by_cases h1 : h = 1
    · subst h1
      obtain ⟨_, hw, hh, hlen, h64⟩ := okChart_iff w 1 l hk
      rw [Int.mul_one] at hlen
      obtain ⟨r, hr, ha, hb⟩ := Ev.two (fun k i (s : List SD' × Int) => spec_PlainProgram.l0 k s.1 s.2 (i + 1) w 1 l) (fun k i (t : List SD' × Int) => impl_PlainProgram.l1 k t.1 t.2 (i + 1) w 1 l) (w - 1).toNat
        (fun i s t => s.1 = t.1 ∧ 0 ≤ t.2 ∧ t.2 ≤ (i : Int) ∧ s.2 = (i : Int) + 1 - t.2 ∧ s.1.length ≤ 2 * i ∧ ((t.1.length : Int) = 0 ↔ t.2 = 0) ∧ rd l (i : Int) = rd l t.2) (fun r => r.1.length ≤ 1000)
        (fun s t hs => by
          obtain ⟨g1, g2, g3, g4, g5, g6, g7⟩ := hs
          obtain ⟨L, n⟩ := s
          obtain ⟨L', b⟩ := t
          dsimp only at g1 g2 g3 g4 g5 g6 g7
          subst g1
          have ol := outL_length L n (rd l b)
          refine ⟨(outL L n (rd l b), true), by dsimp only; omega, ?_, ?_⟩
          · refine Ev.step (f := fun k => spec_PlainProgram.j2 k L n (((w - 1).toNat : Int) + 1) false w 1 l) (fun k => by rw [spec_PlainProgram.l0, if_pos (by omega), if_neg (by omega)]) ?_
            refine specP_out w 1 l L n (((w - 1).toNat : Int) + 1) (by omega) (by omega) (by omega) (by omega) (rd l b) (by rw [← g7, Int.add_sub_cancel]) _ ?_
            exact Ev.step (f := fun _ => some (outL L n (rd l b), true)) (fun k => by rw [spec_PlainProgram.l0, if_neg (by omega)]) (Ev.now _)
          · refine implP_out w 1 l L b (((w - 1).toNat : Int) + 1) g2 (by omega) (by omega) (by omega) (by omega) (by omega) g6 (rd l b) rfl (.inl (by omega)) _ ?_
            rw [← g4]
            exact Ev.step (f := fun _ => some (outL L n (rd l b), true)) (fun k => by rw [impl_PlainProgram.l0, if_neg (by omega)]) (Ev.now _))
        (fun i s t hi hs => by
          obtain ⟨g1, g2, g3, g4, g5, g6, g7⟩ := hs
          obtain ⟨L, n⟩ := s
          obtain ⟨L', b⟩ := t
          dsimp only at g1 g2 g3 g4 g5 g6 g7
          subst g1
          have ol := outL_length L n (rd l b)
          have e1 : rd l ((i : Int) + 1 - 1) = rd l b := by rw [← g7, Int.add_sub_cancel]
          by_cases he : rd l ((i : Int) + 1) = rd l b
          · refine .inr ⟨(L, n + 1), (L, b), ⟨rfl, g2, by dsimp only; omega, by dsimp only; omega, by dsimp only; omega, g6, ?_⟩, fun r hr => ?_, fun r hr => ?_⟩
            · exact he
            · refine Ev.step (f := fun k => spec_PlainProgram.j2 k L n ((i : Int) + 1) true w 1 l) (fun k => ?_) (Ev.step (fun k => ?_) hr)
              · rw [spec_PlainProgram.l0, if_pos (by omega), if_pos (by omega), if_pos (by omega), if_pos (by omega), wrap_id ((i : Int) + 1 - 1) (by omega) (by omega), if_pos (by omega), if_pos (by omega), e1, he, beq_self_eq_true]
              · dsimp only
                rw [spec_PlainProgram.j2, if_pos rfl, wrap_id (n + 1) (by omega) (by omega), wrap_id _ (by omega) (by omega)]
            · refine Ev.step (fun k => ?_) hr
              dsimp only
              rw [impl_PlainProgram.l1, if_pos (by omega), if_pos (by omega), if_pos (by omega), if_pos g2, if_pos (by omega), if_pos he, wrap_id _ (by omega) (by omega)]
          · refine .inr ⟨(outL L n (rd l b), 1), (outL L n (rd l b), (i : Int) + 1), ⟨rfl, by dsimp only; omega, by dsimp only; omega, by dsimp only; omega, by dsimp only; omega, ⟨fun h => by dsimp only at h; omega, fun h => by dsimp only at h; omega⟩, ?_⟩, fun r hr => ?_, fun r hr => ?_⟩
            · rfl
            · refine Ev.step (f := fun k => spec_PlainProgram.j2 k L n ((i : Int) + 1) false w 1 l) (fun k => ?_) (specP_out w 1 l L n ((i : Int) + 1) (by omega) (by omega) (by omega) (by omega) (rd l b) e1 r hr)
              rw [spec_PlainProgram.l0, if_pos (by omega), if_pos (by omega), if_pos (by omega), if_pos (by omega), wrap_id ((i : Int) + 1 - 1) (by omega) (by omega), if_pos (by omega), if_pos (by omega), e1, beq_eq_false_iff_ne.2 he]
            · refine implP_out w 1 l L b ((i : Int) + 1) g2 (by omega) (by omega) (by omega) (by omega) (by omega) g6 (rd l b) rfl (.inr ⟨by omega, by omega, he⟩) r ?_
              rw [← g4]
              refine Ev.step (f := fun k => impl_PlainProgram.l1 k (outL L n (rd l b)) ((i : Int) + 1) ((i : Int) + 1) w 1 l) (fun k => by rw [impl_PlainProgram.l0, if_pos (by omega)]) (Ev.step (fun k => ?_) hr)
              dsimp only
              rw [impl_PlainProgram.l1, if_pos (by omega), if_pos (by omega), if_pos (by omega), if_pos (by omega), if_pos (by omega), if_pos rfl, wrap_id _ (by omega) (by omega)]) ([], 1) ([], 0) ⟨rfl, Int.le_refl _, by simp, by simp, by simp, by simp, rfl⟩
      refine ⟨r, hr, Ev.bind (l2Good_ev w 1 l hl) ?_, ?_⟩
      · simp only [hk, if_true]
        exact Ev.step (fun k => by rw [spec_PlainProgram.j0, if_neg (by decide)]; rfl) ha
      · simp only [if_true]
        refine Ev.step (f := fun k => impl_PlainProgram.l0 k [] 0 w 1 l) (fun k => by rw [impl_PlainProgram.j0, if_neg (by decide)]) ?_
        refine Ev.step (f := fun k => impl_PlainProgram.l1 k [] 0 0 w 1 l) (fun k => by rw [impl_PlainProgram.l0, if_pos (by omega)]) ?_
        refine Ev.step (fun k => ?_) hb
        rw [impl_PlainProgram.l1, if_pos (by omega), if_pos (by omega), if_pos (by omega), if_pos (by omega), if_pos (by omega), if_pos rfl, wrap_id (0 + 1) (by omega) (by omega)]
    · have hne : (h != 1) = true := bne_iff_ne.2 h1
      refine ⟨([], false), Nat.zero_le _, Ev.bind (l2Good_ev w h l hl) ?_, ?_⟩
      · simp only [hk, if_true, hne]; exact no1
      · simp only [if_true, hne]; exact no2
abbrev SD := S72
theorem rdD_set (x : List SD) (i : Nat) (v : SD) (h : i < x.length) : rd_T72 (x.set i v) (i : Int) = v := by
  show (x.set i v).getD i z72 = v
  rw [getD_set, if_pos ⟨rfl, h⟩]
theorem eqDesigns_ev (t : List SD) (ht : t.length ≤ 2000000) : Ev (fun k => laws_eqDesignS.f k t t) true := by
  refine Ev.congr (f := fun k => laws_eqDesignS.l0 k t t 0) (fun k => by unfold laws_eqDesignS.f; rw [if_pos rfl]) ?_
  have e : ∀ x : SD, laws_eqDesign.f x.f0 x.f1 x.f2 x.f3 x.f0 x.f1 x.f2 x.f3 = some true := by
    intro x; unfold laws_eqDesign.f; rw [if_pos rfl, if_pos rfl, if_pos rfl, if_pos rfl]
  obtain ⟨r, hr, h⟩ := Ev.loopE (fun k i (_ : Unit) => laws_eqDesignS.l0 k t t i) t.length (fun _ _ => True) (fun r => r = true)
    (fun s _ => ⟨true, rfl, Ev.step (fun k => by rw [laws_eqDesignS.l0, if_neg (by omega)]) (Ev.now true)⟩)
    (fun i s hi _ => ⟨(), trivial, fun r h => Ev.step (fun k => by
      rw [laws_eqDesignS.l0, if_pos (by omega), if_pos (by omega), if_pos (by omega), e, Option.bind_some, if_pos rfl, wrap_id _ (by omega) (by omega)]) h⟩) () trivial
  subst hr
  exact h
theorem heldDesigns_ev (t : List SD) (ht : t.length ≤ 2000000) (h1 : ∀ j : Nat, j < t.length → t.getD j z72 = ⟨1 + 4 * (j : Int), 1 + 4 * (j : Int) + 1, 1 + 4 * (j : Int) + 1 + 1, 1 + 4 * (j : Int) + 1 + 1 + 1⟩) : Ev (fun k => laws_heldDesignS.f k t 1) (1 + 4 * (t.length : Int)) := by
  unfold laws_heldDesignS.f
  obtain ⟨r, hr, h⟩ := Ev.loopE (fun k i (q : Int) => laws_heldDesignS.l0 k t q i) t.length (fun i q => q = 1 + 4 * (i : Int)) (fun r => r = 1 + 4 * (t.length : Int))
    (fun s hs => ⟨s, hs, Ev.step (fun k => by rw [laws_heldDesignS.l0, if_neg (by omega)]) (Ev.now s)⟩)
    (fun i s hi hs => ⟨s + 1 + 1 + 1 + 1, by omega, fun r h => Ev.step (fun k => by
      have hx : rd_T72 t (i : Int) = ⟨s, s + 1, s + 1 + 1, s + 1 + 1 + 1⟩ := by rw [hs]; exact h1 i hi
      rw [laws_heldDesignS.l0, if_pos (by omega), if_pos (by omega), hx]
      dsimp only
      rw [if_pos rfl, wrap_id (s + 1) (by omega) (by omega), if_pos rfl, wrap_id (s + 1 + 1) (by omega) (by omega), if_pos rfl, wrap_id (s + 1 + 1 + 1) (by omega) (by omega), if_pos rfl, wrap_id (s + 1 + 1 + 1 + 1) (by omega) (by omega), wrap_id ((i : Int) + 1) (by omega) (by omega)]) h⟩) 1 (by omega)
  subst hr
  exact h
theorem markDesigns_ev (t : List SD) (ht : t.length ≤ 2000000) : ∃ t' : List SD, Ev (fun k => laws_markDesignS.f k t 1) (1 + 4 * (t.length : Int), t') ∧ Ev (fun k => laws_heldDesignS.f k t' 1) (1 + 4 * (t.length : Int)) := by
  unfold laws_markDesignS.f
  obtain ⟨⟨m, t'⟩, ⟨hm, hl, hj⟩, h⟩ := Ev.loopE (fun k i (q : Int × List SD) => laws_markDesignS.l0 k q.2 q.1 i) t.length
    (fun i q => q.1 = 1 + 4 * (i : Int) ∧ q.2.length = t.length ∧ ∀ j : Nat, j < i → q.2.getD j z72 = ⟨1 + 4 * (j : Int), 1 + 4 * (j : Int) + 1, 1 + 4 * (j : Int) + 1 + 1, 1 + 4 * (j : Int) + 1 + 1 + 1⟩)
    (fun r => r.1 = 1 + 4 * (t.length : Int) ∧ r.2.length = t.length ∧ ∀ j : Nat, j < t.length → r.2.getD j z72 = ⟨1 + 4 * (j : Int), 1 + 4 * (j : Int) + 1, 1 + 4 * (j : Int) + 1 + 1, 1 + 4 * (j : Int) + 1 + 1 + 1⟩)
    (fun s hs => ⟨s, hs, Ev.step (fun k => by rw [laws_markDesignS.l0, if_neg (by have := hs.2.1; omega)]) (Ev.now s)⟩)
    (fun i s hi hs => by
      obtain ⟨h1, h2, h3⟩ := hs
      refine ⟨(s.1 + 1 + 1 + 1 + 1, s.2.set i ⟨s.1, s.1 + 1, s.1 + 1 + 1, s.1 + 1 + 1 + 1⟩), ⟨by dsimp only; omega, by simp [h2], fun j hj => ?_⟩, fun r h => Ev.step (fun k => ?_) h⟩
      · dsimp only
        rw [getD_set]
        by_cases e : i = j
        · subst e; rw [if_pos ⟨rfl, by omega⟩, h1]
        · rw [if_neg (fun h => e h.1)]; exact h3 j (by omega)
      · have g1 : i < s.2.length := by omega
        rw [laws_markDesignS.l0, if_pos (by omega), if_pos (by omega)]
        simp only [Option.bind_some, Int.toNat_natCast]
        rw [wrap_id (s.1 + 1) (by omega) (by omega), wrap_id (s.1 + 1 + 1) (by omega) (by omega), wrap_id (s.1 + 1 + 1 + 1) (by omega) (by omega), wrap_id (s.1 + 1 + 1 + 1 + 1) (by omega) (by omega), wrap_id ((i : Int) + 1) (by omega) (by omega)]
        simp only [List.set_set, rdD_set _ _ _ g1]) (1, t) ⟨by simp, rfl, fun j hj => absurd hj (by omega)⟩
  simp only at hm hl hj
  subst hm
  refine ⟨t', h, ?_⟩
  have := heldDesigns_ev t' (by omega) (fun j hjj => hj j (by omega))
  rw [hl] at this
  exact this
theorem eqInts_ev (t : List Int) (ht : t.length ≤ 2000000) : Ev (fun k => laws_eqIntS.f k t t) true := by
  refine Ev.congr (f := fun k => laws_eqIntS.l0 k t t 0) (fun k => by unfold laws_eqIntS.f; rw [if_pos rfl]) ?_
  obtain ⟨r, hr, h⟩ := Ev.loopE (fun k i (_ : Unit) => laws_eqIntS.l0 k t t i) t.length (fun _ _ => True) (fun r => r = true)
    (fun s _ => ⟨true, rfl, Ev.step (fun k => by rw [laws_eqIntS.l0, if_neg (by omega)]) (Ev.now true)⟩)
    (fun i s hi _ => ⟨(), trivial, fun r h => Ev.step (fun k => by
      rw [laws_eqIntS.l0, if_pos (by omega), if_pos (by omega), if_pos (by omega), if_pos rfl, wrap_id _ (by omega) (by omega)]) h⟩) () trivial
  subst hr
  exact h
theorem eqChart_ev (w h : Int) (t : List Int) (hl : t.length ≤ 2000000) : Ev (fun k => laws_eqChart.f k w h t w h t) true := by
  unfold laws_eqChart.f
  simp only [if_true]
  exact Ev.bind (eqInts_ev t hl) (by simp only [if_true]; exact Ev.now _)
theorem mark0_ev (t : List Int) (m0 : Int) (hm0 : 0 ≤ m0) (hm1 : m0 ≤ 4000000) (ht : t.length ≤ 2000000) : ∃ (m : Int) (t' : List Int), 0 ≤ m ∧ Ev (fun k => laws_markIntS.f k t m0) (m, t') := by
  unfold laws_markIntS.f
  obtain ⟨⟨m, t'⟩, hm, h⟩ := Ev.loopE (fun k i (q : Int × List Int) => laws_markIntS.l0 k q.2 q.1 i) t.length
    (fun i q => q.1 = m0 + (i : Int) ∧ q.2.length = t.length) (fun r => 0 ≤ r.1)
    (fun s hs => ⟨s, by omega, Ev.step (fun k => by rw [laws_markIntS.l0, if_neg (by omega)]) (Ev.now s)⟩)
    (fun i s hi hs => ⟨(s.1 + 1, s.2.set i s.1), ⟨by have := hs.1; simp only; omega, by simp [hs.2]⟩, fun r h => Ev.step (fun k => by
      have h1 := hs.1
      have h2 := hs.2
      rw [laws_markIntS.l0, if_pos (by omega), if_pos (by omega), wrap_id _ (by omega) (by omega), wrap_id _ (by omega) (by omega), Int.toNat_natCast]) h⟩) (m0, t) ⟨by simp, rfl⟩
  exact ⟨m, t', hm, h⟩
theorem markChart0_ev (w h : Int) (t : List Int) (m0 : Int) (hm0 : 0 ≤ m0) (hm1 : m0 ≤ 4000000) (hl : t.length ≤ 2000000) : ∃ (m : Int) (t' : List Int), 0 ≤ m ∧ Ev (fun k => laws_markChart.f k w h t m0) (m, t') := by
  obtain ⟨m, t', hm, h⟩ := mark0_ev t m0 hm0 hm1 hl
  exact ⟨m, t', hm, by unfold laws_markChart.f; exact Ev.bind h (Ev.now _)⟩
theorem FnExactPlainProgram (a0_0 : Int) (a0_1 : Int) (l0_2 : List (Int)) (q_a0_0 : (Lit.int .i64 a0_0).wf = true) (q_a0_1 : (Lit.int .i64 a0_1).wf = true) (q_l0_2 : (l0_2.length ≤ maxLen ∧ ∀ q ∈ l0_2, (Lit.int .i64 q).wf = true)) : ∃ k, laws_FnExactPlainProgram.f k a0_0 a0_1 l0_2 = some true := by
  by_cases hl : (l0_2.length : Int) ≤ 1048576
  · obtain ⟨t, ht, K1, h1⟩ := toChart_ev a0_0 a0_1 l0_2 (by omega)
    obtain ⟨r, hr, ⟨K2, h2⟩, K3, h3⟩ := PlainProgram_same a0_0 a0_1 t (by omega)
    obtain ⟨K4, h4⟩ := eqChart_ev a0_0 a0_1 t (by omega)
    obtain ⟨m, t', hm, K5, h5⟩ := markChart0_ev a0_0 a0_1 t 1 (by omega) (by omega) (by omega)
    obtain ⟨K6, h6⟩ := eqDesigns_ev r.1 (by omega)
    obtain ⟨g', ⟨K7, h7⟩, K8, h8⟩ := markDesigns_ev r.1 (by omega)
    obtain ⟨N, hN⟩ : ∃ N, N = K1 + K2 + K3 + K4 + K5 + K6 + K7 + K8 := ⟨_, rfl⟩
    replace h1 := h1 N (by omega)
    replace h2 := h2 N (by omega)
    replace h3 := h3 N (by omega)
    replace h4 := h4 N (by omega)
    replace h5 := h5 N (by omega)
    replace h6 := h6 N (by omega)
    replace h7 := h7 N (by omega)
    replace h8 := h8 N (by omega)
    dsimp only at h1 h2 h3 h4 h5 h6 h7 h8
    refine ⟨N, ?_⟩
    have n1 : ¬ m < 0 := by omega
    have n2 : ¬ 1 + 4 * (r.1.length : Int) < 0 := by omega
    unfold laws_FnExactPlainProgram.f
    rw [szChart2 a0_0 a0_1 l0_2 hl, Option.bind_some, if_neg (by omega)]
    simp only [h1, h2, h3, h4, h5, h6, h7, h8, n1, n2, Option.bind_some, if_true, if_false, bne_self_eq_false, Bool.false_eq_true]
  · refine ⟨0, ?_⟩
    unfold laws_FnExactPlainProgram.f
    rw [szChart1 a0_0 a0_1 l0_2 hl q_l0_2.1]
    rfl
end Go.Proofs.Ytplhkmeoeojinaa.Pure
