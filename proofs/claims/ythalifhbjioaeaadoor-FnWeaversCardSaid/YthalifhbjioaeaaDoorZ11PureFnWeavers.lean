/- The plain law of FnWeavers: what the program's functions compute is what the reference's compute. No program and no memory in it. -/
import Derived.Test.YthalifhbjioaeaaDoorZ11Hx8
import Derived.Test.YthalifhbjioaeaaDoorZ11Lps
namespace Go.Proofs.YthalifhbjioaeaaDoor.Pure
open Go.RowKit Go.Proofs.YthalifhbjioaeaaDoorW.PrintWords Go.Proofs.YthalifhbjioaeaaDoorW.PrintLast Go.Proofs.YthalifhbjioaeaaDoor.H
set_option linter.unusedVariables false
set_option linter.unusedSimpArgs false
theorem low8 (y : Int) : 0 ≤ Go.bits .and .u64 y 255 ∧ Go.bits .and .u64 y 255 ≤ 255 := by
  have h : ((BitVec.ofInt 64 y) &&& (BitVec.ofInt 64 255)).toNat ≤ 255 := by
    rw [BitVec.toNat_and]
    exact Nat.le_trans Nat.and_le_right (by decide)
  have e : Go.bits .and .u64 y 255 = IntKind.u64.wrap ((((BitVec.ofInt 64 y) &&& (BitVec.ofInt 64 255)).toNat : Nat) : Int) := rfl
  have e2 : ∀ n : Nat, n ≤ 255 → IntKind.u64.wrap (n : Int) = (n : Int) := fun n hn => by
    show (n : Int) % 18446744073709551616 = (n : Int)
    omega
  rw [e, e2 _ h]
  omega
def codeOk (code : List Int) : Prop := code.length ≤ 70000 ∧ ∀ i : Int, 0 ≤ rd code i ∧ rd code i ≤ 255
theorem codeOk_of (code : List Int) (hl : code.length ≤ 70000) (h : ∀ x ∈ code, (Lit.int .u8 x).wf = true) : codeOk code := by
  refine ⟨hl, fun i => ?_⟩
  unfold rd
  rw [List.getD_eq_getElem?_getD]
  by_cases c : i.toNat < code.length
  · rw [List.getElem?_eq_getElem c]
    have := h _ (List.getElem_mem c)
    have h3 : (decide (IntKind.u8.min ≤ code[i.toNat]) && decide (code[i.toNat] ≤ IntKind.u8.max)) = true := this
    rw [Bool.and_eq_true, decide_eq_true_iff, decide_eq_true_iff, show IntKind.u8.min = 0 by decide, show IntKind.u8.max = 255 by decide] at h3
    exact h3
  · rw [List.getElem?_eq_none (by omega)]
    exact ⟨by decide, by decide⟩
theorem next_ok (code : List Int) (hc : codeOk code) (at_ seed : Int) (h0 : 0 ≤ at_) (h1 : at_ ≤ 1000000) : ∃ x s, spec_l1Cur_next.f code at_ seed = some (x, at_ + 1, s) ∧ 0 ≤ x ∧ x ≤ 255 := by
  have hw : wrap64 (at_ + 1) = at_ + 1 := wrap_id _ (by omega) (by omega)
  have hb := hc.2 at_
  unfold spec_l1Cur_next.f
  rw [hw]
  by_cases c : at_ < (code.length : Int)
  · rw [if_pos c, if_pos h0, if_pos (by omega)]
    exact ⟨_, _, rfl, by rw [wrap_id _ (by omega) (by omega)]; exact hb⟩
  · rw [if_neg c, if_neg (by omega)]
    refine ⟨_, _, rfl, ?_⟩
    have := low8 ((IntKind.u64.wrap ((IntKind.u64.wrap ((IntKind.u64.wrap (seed * 6364136223846793005)))) + 102323)) / 1099511627776)
    rw [wrap_id _ (by omega) (by omega)]
    exact this
theorem pick_ok (code : List Int) (hc : codeOk code) (at_ seed n : Int) (h0 : 0 ≤ at_) (h1 : at_ ≤ 900000) (hn : n ≤ 1000000) : ∃ x a s, spec_l1Cur_pick.f code at_ seed n = some (x, a, s) ∧ 0 ≤ x ∧ (x < n ∨ x = 0) ∧ at_ ≤ a ∧ a ≤ at_ + 2 := by
  unfold spec_l1Cur_pick.f
  by_cases c : n ≤ 1
  · exact ⟨0, at_, seed, by rw [if_pos c], by omega, .inr rfl, by omega, by omega⟩
  · rw [if_neg c]
    obtain ⟨x, s, e, x0, x1⟩ := next_ok code hc at_ seed h0 (by omega)
    rw [e, Option.bind_some]
    dsimp only
    by_cases c2 : n > 200
    · rw [if_pos c2]
      obtain ⟨y, s2, e2, y0, y1⟩ := next_ok code hc (at_ + 1) s (by omega) (by omega)
      rw [e2, Option.bind_some, if_neg (by omega)]
      dsimp only
      rw [wrap_id (x * 256) (by omega) (by omega), wrap_id (x * 256 + y) (by omega) (by omega)]
      exact ⟨_, _, _, rfl, Int.tmod_nonneg _ (by omega), .inl (Int.tmod_lt_of_pos _ (by omega)), by omega, by omega⟩
    · rw [if_neg c2, if_neg (by omega)]
      exact ⟨_, _, _, rfl, Int.tmod_nonneg _ x0, .inl (Int.tmod_lt_of_pos _ (by omega)), by omega, by omega⟩
theorem among_ok (code : List Int) (hc : codeOk code) (at_ seed : Int) (l : List Int) (hl : 0 < l.length ∧ l.length ≤ 1000) (h0 : 0 ≤ at_) (h1 : at_ ≤ 900000) : ∃ x a s, spec_l1Cur_among.f code at_ seed l = some (x, a, s) ∧ x ∈ l ∧ at_ ≤ a ∧ a ≤ at_ + 2 := by
  unfold spec_l1Cur_among.f
  obtain ⟨x, a, s, e, x0, x1, a0, a1⟩ := pick_ok code hc at_ seed (l.length : Int) h0 h1 (by omega)
  rw [e, Option.bind_some]
  dsimp only
  have hx : x < (l.length : Int) := by omega
  rw [if_pos x0, if_pos hx]
  refine ⟨_, a, s, rfl, ?_, a0, a1⟩
  show l.getD x.toNat 0 ∈ l
  rw [List.getD_eq_getElem?_getD, List.getElem?_eq_getElem (by omega)]
  exact List.getElem_mem (by omega)
theorem one_ok (code : List Int) (hc : codeOk code) (at_ seed n : Int) (h0 : 0 ≤ at_) (h1 : at_ ≤ 900000) (hn : n ≤ 1000000) : ∃ x a s, spec_l1Cur_one.f code at_ seed n = some (x, a, s) ∧ at_ ≤ a ∧ a ≤ at_ + 2 := by
  unfold spec_l1Cur_one.f
  obtain ⟨x, a, s, e, _, _, a0, a1⟩ := pick_ok code hc at_ seed n h0 h1 hn
  rw [e, Option.bind_some]
  exact ⟨_, a, s, rfl, a0, a1⟩
theorem cut_ok (code : List Int) (hc : codeOk code) (at_ seed : Int) (y : List Int) (b : Int) (hb : 1 ≤ b ∧ b + 2 ≤ (y.length : Int)) (hy : y.length ≤ 1000) (h0 : 0 ≤ at_) (h1 : at_ ≤ 800000) : ∃ x a s v c t, spec_l1Cur_pick.f code at_ seed 24 = some (x, a, s) ∧ wrap64 (b + wrap64 (Int.tdiv x 11)) = c ∧ 0 ≤ c ∧ c ≤ (y.length : Int) ∧ (∃ a2, spec_l1Cur_among.f code a s (y.take c.toNat) = some (v, a2, t) ∧ at_ ≤ a2 ∧ a2 ≤ at_ + 4) := by
  obtain ⟨x, a, s, e, x0, x1, a0, a1⟩ := pick_ok code hc at_ seed 24 h0 (by omega) (by omega)
  have hd0 : 0 ≤ Int.tdiv x 11 := Int.tdiv_nonneg x0 (by decide)
  have hd1 : Int.tdiv x 11 ≤ 2 := by
    rw [Int.tdiv_eq_ediv_of_nonneg x0]
    omega
  have ew : wrap64 (b + wrap64 (Int.tdiv x 11)) = b + Int.tdiv x 11 := by
    rw [wrap_id (Int.tdiv x 11) (by omega) (by omega), wrap_id _ (by omega) (by omega)]
  have hlen : (y.take (b + Int.tdiv x 11).toNat).length = (b + Int.tdiv x 11).toNat := by rw [List.length_take]; omega
  obtain ⟨v, a2, t, e2, _, b0, b1⟩ := among_ok code hc a s (y.take (b + Int.tdiv x 11).toNat) ⟨by omega, by omega⟩ (by omega) (by omega)
  exact ⟨x, a, s, v, b + Int.tdiv x 11, t, e, ew, by omega, by omega, a2, e2, by omega, by omega⟩
theorem l1In_eq (a b c : Int) : spec_l1In.f a b c = some (rng a b c) := spec_l1In.eq a b c
theorem in_eq (a b c : Int) : impl_in.f a b c = some (rng a b c) := impl_in.eq a b c
theorem word_at (s : ByteArray) (i : Nat) (hi : i < s.size) : bt s (i : Int) = (((s.data.toList)[i]'(by simpa using hi)).toNat : Int) := by
  unfold bt
  rw [dif_pos (by simpa using hi)]
  rfl
theorem l2Word_ev (s : ByteArray) (hs : s.size ≤ 2000000) : Ev (fun k => spec_l2Word.f k s) (isWordB s) := by
  unfold spec_l2Word.f
  have e : isWordB s = ((List.range s.size).all (fun i => decide (97 ≤ bt s (i : Int)) && decide (bt s (i : Int) ≤ 122)) && rng (s.size : Int) 1 10) := by
    unfold isWordB
    rw [Bool.and_comm]
    congr 1
    rw [Bool.eq_iff_iff, all_range, List.all_eq_true]
    constructor
    · intro h i hi
      have := h _ (List.getElem_mem (by simpa using hi : i < s.data.toList.length))
      rw [word_at s i hi]
      rw [Bool.and_eq_true, decide_eq_true_iff, decide_eq_true_iff] at this ⊢
      omega
    · intro h b hb
      obtain ⟨i, hi, rfl⟩ := List.getElem_of_mem hb
      have hi' : i < s.size := by simpa using hi
      have := h i hi'
      rw [word_at s i hi'] at this
      rw [Bool.and_eq_true, decide_eq_true_iff, decide_eq_true_iff] at this ⊢
      omega
  rw [e]
  refine Ev.scan (fun k i => spec_l2Word.l0 k s i) s.size _ _ (Ev.step (f := fun _ => some _) (fun k => ?_) (Ev.now _)) ?_ ?_
  · rw [spec_l2Word.l0, if_neg (by omega), l1In_eq]
    rfl
  · intro i hi hg
    refine Ev.step (f := fun _ => some false) (fun k => ?_) (Ev.now _)
    rw [spec_l2Word.l0, if_pos (by omega), if_pos (by omega)]
    by_cases c : bt s (i : Int) < 97
    · rw [if_pos c]
    · rw [if_neg c, if_pos]
      rw [Bool.and_eq_false_iff, decide_eq_false_iff_not, decide_eq_false_iff_not] at hg
      omega
  · intro i r hi hg hr
    refine Ev.step (fun k => ?_) hr
    rw [Bool.and_eq_true, decide_eq_true_iff, decide_eq_true_iff] at hg
    rw [spec_l2Word.l0, if_pos (by omega), if_pos (by omega), if_neg (by omega), if_neg (by omega), wrap_id _ (by omega) (by omega)]
abbrev WV := S26
theorem l11One_ev (x : WV) (hs : x.f1.size ≤ 2000000) : Ev (fun k => spec_l11One.f k x.f0 x.f1 x.f2 x.f3 x.f4) (okWv x) := by
  unfold spec_l11One.f spec_l11Skills.f okWv
  simp only [l1In_eq, Option.bind_some]
  cases rng x.f0 1 99 with
  | false => exact Ev.now _
  | true =>
    simp only [if_true, Bool.true_and]
    refine Ev.bind (l2Word_ev x.f1 hs) ?_
    cases isWordB x.f1 with
    | false => exact Ev.now _
    | true =>
      simp only [if_true, Bool.true_and]
      cases rng x.f2 1 15 <;> cases rng x.f3 100 12000 <;> exact Ev.now _
theorem seats_ev (l : List WV) (a : Int) (hl : l.length ≤ 2000000) : Ev (fun k => spec_l11Seats.f k l a) (sitN l a) := by
  unfold spec_l11Seats.f
  obtain ⟨r, hr, h⟩ := Ev.loopE (fun k i (s : Int) => spec_l11Seats.l0 k l a s i) l.length (fun i s => s = (((l.take i).filter fun x => decide (x.f4 = a)).length : Int)) (fun r => r = sitN l a)
    (fun s hs => ⟨s, by rw [hs, List.take_length]; rfl, Ev.step (f := fun _ => some s) (fun k => by rw [spec_l11Seats.l0, if_neg (by omega)]) (Ev.now _)⟩)
    (fun i s hi hs => by
      have hle : ((l.take i).filter fun x => decide (x.f4 = a)).length ≤ (l.take i).length := List.length_filter_le _ _
      have hle2 : (l.take i).length ≤ i := List.length_take_le _ _
      have et : l.take (i + 1) = l.take i ++ [l[i]] := List.take_succ_eq_append_getElem hi
      have e0 : rd_T26 l (i : Int) = l[i] := by
        show l.getD ((i : Int)).toNat z26 = l[i]
        rw [Int.toNat_natCast, List.getD_eq_getElem?_getD, List.getElem?_eq_getElem hi]
        rfl
      by_cases c : l[i].f4 = a
      · refine ⟨s + 1, by rw [et, List.filter_append, List.length_append, hs]; simp [c], fun r h => Ev.step (fun k => ?_) h⟩
        rw [spec_l11Seats.l0, if_pos (by omega), if_pos (by omega), e0, if_pos c, wrap_id (s + 1) (by omega) (by omega), wrap_id _ (by omega) (by omega)]
      · refine ⟨s, by rw [et, List.filter_append, List.length_append, hs]; simp [c], fun r h => Ev.step (fun k => ?_) h⟩
        rw [spec_l11Seats.l0, if_pos (by omega), if_pos (by omega), e0, if_neg c, wrap_id _ (by omega) (by omega)]) 0 (by simp)
  subst hr
  exact h
def okWvs (l : List WV) : Bool := decide ((l.length : Int) ≤ 8) && (l.all okWv && (asc idWv l && l.all (seatOk l)))
theorem AreWeavers_eq (l : List WV) : impl_AreWeavers.f l = some (okWvs l) := rfl
theorem l11Good_ev (l : List WV) (hl : l.length ≤ 2000000) (hz : ∀ x ∈ l, x.f1.size ≤ 1048576) : Ev (fun k => spec_l11Good.f k l) (okWvs l) := by
  unfold spec_l11Good.f
  have e : okWvs l = ((List.range l.length).all (fun i => okWv (l.getD i z26) && ((decide (i = 0) || decide ((l.getD (i - 1) z26).f0 < (l.getD i z26).f0)) && seatOk l (l.getD i z26))) && decide ((l.length : Int) ≤ 8)) := by
    unfold okWvs
    rw [Bool.and_comm]
    congr 1
    rw [Bool.eq_iff_iff, all_range, Bool.and_eq_true, Bool.and_eq_true, all_getD z26, all_getD z26, asc_iff idWv z26]
    constructor
    · rintro ⟨h1, h2, h3⟩ i hi
      rw [Bool.and_eq_true, Bool.and_eq_true, Bool.or_eq_true, decide_eq_true_iff, decide_eq_true_iff]
      refine ⟨h1 i hi, ?_, h3 i hi⟩
      by_cases e : i = 0
      · exact .inl e
      · have := h2 (i - 1) (by omega)
        rw [show i - 1 + 1 = i by omega] at this
        exact .inr this
    · intro h
      refine ⟨fun i hi => ?_, fun i hi => ?_, fun i hi => ?_⟩
      · have := h i hi
        rw [Bool.and_eq_true] at this
        exact this.1
      · have := h (i + 1) hi
        rw [Bool.and_eq_true, Bool.and_eq_true, Bool.or_eq_true, decide_eq_true_iff, decide_eq_true_iff] at this
        rcases this.2.1 with h | h
        · omega
        · exact h
      · have := h i hi
        rw [Bool.and_eq_true, Bool.and_eq_true] at this
        exact this.2.2
  rw [e]
  have hone : ∀ i : Nat, i < l.length → Ev (fun k => spec_l11One.f k (l.getD i z26).f0 (l.getD i z26).f1 (l.getD i z26).f2 (l.getD i z26).f3 (l.getD i z26).f4) (okWv (l.getD i z26)) := fun i hi => l11One_ev _ (by
    have : l.getD i z26 ∈ l := by
      rw [List.getD_eq_getElem?_getD, List.getElem?_eq_getElem hi]
      exact List.getElem_mem hi
    have := hz _ this
    omega)
  have round : ∀ (i : Nat) (r : Bool), i < l.length → (∀ b, b = (okWv (l.getD i z26) && ((decide (i = 0) || decide ((l.getD (i - 1) z26).f0 < (l.getD i z26).f0)) && seatOk l (l.getD i z26))) → (b = true → Ev (fun k => spec_l11Good.l0 k l ((i : Int) + 1)) r) → (b = false → r = false) → Ev (fun k => spec_l11Good.l0 k l (i : Int)) r) := by
    intro i r hi b hb ht hf
    have h1 := hone i hi
    have e0 : rd_T26 l (i : Int) = l.getD i z26 := rfl
    have ep : 0 < i → rd_T26 l ((i : Int) - 1) = l.getD (i - 1) z26 := fun h => by
      show l.getD ((i : Int) - 1).toNat z26 = _
      rw [show ((i : Int) - 1).toNat = i - 1 by omega]
    obtain ⟨x, hx⟩ : ∃ x, x = l.getD i z26 := ⟨_, rfl⟩
    rw [← hx] at h1 e0 hb
    have w1 : wrap64 ((i : Int) - 1) = (i : Int) - 1 := wrap_id _ (by omega) (by omega)
    have w2 : wrap64 ((i : Int) + 1) = (i : Int) + 1 := wrap_id _ (by omega) (by omega)
    refine Ev.step (fun k => by rw [spec_l11Good.l0, if_pos (by omega), if_pos (by omega), e0, w1, w2]) (Ev.bind h1 ?_)
    cases ho : okWv x with
    | false =>
      rw [ho, Bool.false_and] at hb
      rw [hf hb]
      simp only [Bool.false_eq_true, if_false]
      exact Ev.now _
    | true =>
      rw [ho, Bool.true_and] at hb
      simp only [if_true]
      have hf4 : 0 ≤ x.f4 := by
        unfold okWv at ho
        simp only [Bool.and_eq_true, rng_iff] at ho
        omega
      have tail : (b = true → Ev (fun k => spec_l11Good.l0 k l ((i : Int) + 1)) r) → (seatOk l x = b) → Ev (fun k => if x.f4 > 0 then (spec_l11Seats.f k l x.f4).bind fun t => if t > 3 then some false else spec_l11Good.l0 k l ((i : Int) + 1) else spec_l11Good.l0 k l ((i : Int) + 1)) r := by
        intro ht hs
        by_cases c : x.f4 > 0
        · simp only [if_pos c]
          refine Ev.bind (seats_ev l x.f4 hl) ?_
          by_cases c3 : sitN l x.f4 > 3
          · simp only [if_pos c3]
            rw [hf (by rw [← hs]; unfold seatOk; rw [decide_eq_false (by omega), decide_eq_false (by omega)]; rfl)]
            exact Ev.now _
          · simp only [if_neg c3]
            exact ht (by rw [← hs]; unfold seatOk; rw [decide_eq_true (show sitN l x.f4 ≤ 3 by omega)]; simp)
        · simp only [if_neg c]
          exact ht (by rw [← hs]; unfold seatOk; rw [decide_eq_true (show x.f4 = 0 by omega)]; rfl)
      by_cases ci : i = 0
      · simp only [if_neg (show ¬ (i : Int) > 0 by omega)]
        exact tail ht (by rw [hb, decide_eq_true ci]; simp)
      · simp only [if_pos (show (i : Int) > 0 by omega), if_pos (show 0 ≤ (i : Int) - 1 by omega), if_pos (show (i : Int) - 1 < (l.length : Int) by omega), ep (by omega)]
        rw [decide_eq_false ci, Bool.false_or] at hb
        by_cases cc : (l.getD (i - 1) z26).f0 ≥ x.f0
        · simp only [if_pos cc]
          rw [hf (by rw [hb, decide_eq_false (by omega)]; rfl)]
          exact Ev.now _
        · simp only [if_neg cc]
          exact tail ht (by rw [hb, decide_eq_true (by omega)]; simp)
  refine Ev.scan (fun k i => spec_l11Good.l0 k l i) l.length _ _ (Ev.step (f := fun _ => some _) (fun k => by rw [spec_l11Good.l0, if_neg (by omega)]) (Ev.now _)) ?_ ?_
  · intro i hi hg
    exact round i false hi _ rfl (fun h => by rw [hg] at h; cases h) (fun _ => rfl)
  · intro i r hi hg hr
    exact round i r hi _ rfl (fun _ => hr) (fun h => by rw [hg] at h; cases h)
theorem of_ok (code : List Int) (hc : codeOk code) (at_ seed : Int) (l : List ByteArray) (hl : 0 < l.length ∧ l.length ≤ 1000) (h0 : 0 ≤ at_) (h1 : at_ ≤ 900000) : ∃ x a s, spec_l1Cur_of.f code at_ seed l = some (x, a, s) ∧ x ∈ l ∧ at_ ≤ a ∧ a ≤ at_ + 2 := by
  unfold spec_l1Cur_of.f
  obtain ⟨x, a, s, e, x0, x1, a0, a1⟩ := pick_ok code hc at_ seed (l.length : Int) h0 h1 (by omega)
  rw [e, Option.bind_some]
  dsimp only
  have hx : x < (l.length : Int) := by omega
  rw [if_pos x0, if_pos hx]
  refine ⟨_, a, s, rfl, ?_, a0, a1⟩
  show l.getD x.toNat ByteArray.empty ∈ l
  rw [List.getD_eq_getElem?_getD, List.getElem?_eq_getElem (by omega)]
  exact List.getElem_mem (by omega)
theorem weaver_ok (code : List Int) (hc : codeOk code) (at_ seed id : Int) (h0 : 0 ≤ at_) (h1 : at_ ≤ 800000) : ∃ i n k v m p s, spec_l1Cur_weaver.f code at_ seed id = some (i, n, k, v, m, p, s) ∧ n.size ≤ 100 ∧ at_ ≤ p ∧ p ≤ at_ + 12 := by
  obtain ⟨n1, p1, s1, e1, m1, u1, v1⟩ := of_ok code hc at_ seed [(⟨#[97, 121, 115, 101]⟩ : ByteArray), (⟨#[100, 105, 108, 101, 107]⟩ : ByteArray), (⟨#[111, 109, 105, 100]⟩ : ByteArray)] ⟨by decide, by decide⟩ h0 (by omega)
  have z1 : n1.size ≤ 100 := by
    rcases List.mem_cons.1 m1 with rfl | m1
    · decide
    · rcases List.mem_cons.1 m1 with rfl | m1
      · decide
      · rcases List.mem_cons.1 m1 with rfl | m1
        · decide
        · cases m1
  obtain ⟨x2, p2, s2, e2, _, u2, v2⟩ := among_ok code hc p1 s1 [1, 1, 2, 3, 5, 8, 15] (by decide) (by omega) (by omega)
  obtain ⟨x3, p3, s3, e3, _, u3, v3⟩ := among_ok code hc p2 s2 [100, 6000, 6000, 7500, 12000] (by decide) (by omega) (by omega)
  obtain ⟨x4, p4, s4, e4, _, u4, v4⟩ := among_ok code hc p3 s3 [0, 0, 3, 3, 4, 99] (by decide) (by omega) (by omega)
  obtain ⟨x, q, s, f, x0, xx, q0, q1⟩ := pick_ok code hc p4 s4 70 (by omega) (by omega) (by omega)
  obtain ⟨y0, b0, t0, f0, _, w0, g0⟩ := among_ok code hc q s [0, 99, 100] (by decide) (by omega) (by omega)
  obtain ⟨y1, b1, t1, f1, my, w1, g1⟩ := of_ok code hc q s [(⟨#[]⟩ : ByteArray), (⟨#[65]⟩ : ByteArray), (⟨#[97, 98, 99, 100, 101, 102, 103, 104, 105, 106, 107]⟩ : ByteArray)] ⟨by decide, by decide⟩ (by omega) (by omega)
  have z2 : y1.size ≤ 100 := by
    rcases List.mem_cons.1 my with rfl | my
    · decide
    · rcases List.mem_cons.1 my with rfl | my
      · decide
      · rcases List.mem_cons.1 my with rfl | my
        · decide
        · cases my
  obtain ⟨y2, b2, t2, f2, _, w2, g2⟩ := among_ok code hc q s [0, 16] (by decide) (by omega) (by omega)
  obtain ⟨y3, b3, t3, f3, _, w3, g3⟩ := among_ok code hc q s [99, 12001] (by decide) (by omega) (by omega)
  obtain ⟨y4, b4, t4, f4, _, w4, g4⟩ := among_ok code hc q s [(-1), 100] (by decide) (by omega) (by omega)
  unfold spec_l1Cur_weaver.f
  simp only [e1, e2, e3, e4, f, Option.bind_some]
  by_cases c0 : x = 0
  · simp only [if_pos c0, f0, Option.bind_some]
    exact ⟨_, _, _, _, _, _, _, rfl, z1, by omega, by omega⟩
  · simp only [if_neg c0]
    by_cases c1 : x = 1
    · simp only [if_pos c1, f1, Option.bind_some]
      exact ⟨_, _, _, _, _, _, _, rfl, z2, by omega, by omega⟩
    · simp only [if_neg c1]
      by_cases c2 : x = 2
      · simp only [if_pos c2, f2, Option.bind_some]
        exact ⟨_, _, _, _, _, _, _, rfl, z1, by omega, by omega⟩
      · simp only [if_neg c2]
        by_cases c3 : x = 3
        · simp only [if_pos c3, f3, Option.bind_some]
          exact ⟨_, _, _, _, _, _, _, rfl, z1, by omega, by omega⟩
        · simp only [if_neg c3]
          by_cases c4 : x = 4
          · simp only [if_pos c4, f4, Option.bind_some]
            exact ⟨_, _, _, _, _, _, _, rfl, z1, by omega, by omega⟩
          · simp only [if_neg c4]
            exact ⟨_, _, _, _, _, _, _, rfl, z1, by omega, by omega⟩
def Sz (l : List WV) : Prop := ∀ x ∈ l, x.f1.size ≤ 100
theorem Sz_add (l : List WV) (h : Sz l) (x : WV) (hx : x.f1.size ≤ 100) : Sz (l ++ [x]) := by
  intro y hy
  rcases List.mem_append.1 hy with h1 | h1
  · exact h y h1
  · rw [List.mem_singleton.1 h1]; exact hx
theorem Sz_nil : Sz [] := fun _ h => by cases h
theorem weavers_l1 (code : List Int) (hc : codeOk code) (d : Nat) : ∀ (i : Nat) (xs : List WV) (at_ seed : Int), xs.length = i → i + d = 10 → Sz xs → 0 ≤ at_ → at_ + 10 * (d : Int) ≤ 500000 → ∃ (ys : List WV) (p s : Int), (ys.length ≤ 20 ∧ Sz ys) ∧ (at_ ≤ p ∧ p ≤ at_ + 10 * (d : Int) + 10) ∧ Ev (fun k => spec_l1Cur_weavers.l1 k xs (i : Int) code at_ seed) (ys, p, s) := by
  induction d with
  | zero =>
    intro i xs at_ seed hx hi hz a0 a1
    obtain ⟨t, p, s, e, t0, t1, u, v⟩ := pick_ok code hc at_ seed 2 a0 (by omega) (by omega)
    refine ⟨xs, p, s, ⟨by omega, hz⟩, ⟨by omega, by omega⟩, Ev.step (f := fun _ => some (xs, p, s)) (fun k => ?_) (Ev.now _)⟩
    rw [spec_l1Cur_weavers.l1, e, Option.bind_some]
    dsimp only
    rw [wrap_id (8 + t) (by omega) (by omega), if_neg (by omega)]
  | succ d ih =>
    intro i xs at_ seed hx hi hz a0 a1
    obtain ⟨t, p, s, e, t0, t1, u, v⟩ := pick_ok code hc at_ seed 2 a0 (by omega) (by omega)
    by_cases c : (i : Int) < 8 + t
    · obtain ⟨ys, p2, s2, g1, g2, g3⟩ := ih (i + 1) (xs ++ [⟨wrap64 ((i : Int) + 1), (⟨#[120]⟩ : ByteArray), 1, 500, 0⟩]) p s (by rw [List.length_append, List.length_singleton]; omega) (by omega) (Sz_add xs hz _ (by show (⟨#[120]⟩ : ByteArray).size ≤ 100; decide)) (by omega) (by omega)
      rw [show ((i + 1 : Nat) : Int) = (i : Int) + 1 by omega] at g3
      refine ⟨ys, p2, s2, g1, ⟨by omega, by omega⟩, Ev.step (fun k => ?_) g3⟩
      rw [spec_l1Cur_weavers.l1, e, Option.bind_some]
      dsimp only
      rw [wrap_id (8 + t) (by omega) (by omega), if_pos c, if_pos (by omega), wrap_id ((i : Int) + 1) (by omega) (by omega)]
    · refine ⟨xs, p, s, ⟨by omega, hz⟩, ⟨by omega, by omega⟩, Ev.step (f := fun _ => some (xs, p, s)) (fun k => ?_) (Ev.now _)⟩
      rw [spec_l1Cur_weavers.l1, e, Option.bind_some]
      dsimp only
      rw [wrap_id (8 + t) (by omega) (by omega), if_neg c]
theorem weavers_l0 (code : List Int) (hc : codeOk code) (n : Nat) : ∀ (xs : List WV) (id at_ seed : Int), xs.length + n ≤ 7 → Sz xs → 0 ≤ at_ → at_ + 20 * (n : Int) ≤ 1000 → ∃ (ys : List WV) (p s : Int), (ys.length ≤ 20 ∧ Sz ys) ∧ (0 ≤ p ∧ p ≤ 2000) ∧ Ev (fun k => spec_l1Cur_weavers.l0 k xs id (n : Int) code at_ seed) (ys, p, s) := by
  induction n with
  | zero =>
    intro xs id at_ seed hx hz a0 a1
    obtain ⟨o, p, s, e, u, v⟩ := one_ok code hc at_ seed 24 a0 (by omega) (by omega)
    cases o with
    | true =>
      obtain ⟨ys, p2, s2, g1, g2, g3⟩ := weavers_l1 code hc 10 0 [] p s rfl (by omega) Sz_nil (by omega) (by omega)
      refine ⟨ys, p2, s2, g1, ⟨by omega, by omega⟩, Ev.step (fun k => ?_) g3⟩
      rw [spec_l1Cur_weavers.l0, if_neg (by omega), e, Option.bind_some]
      dsimp only
      rw [if_pos rfl]
      rfl
    | false =>
      refine ⟨xs, p, s, ⟨by omega, hz⟩, ⟨by omega, by omega⟩, Ev.step (f := fun _ => some (xs, p, s)) (fun k => ?_) (Ev.now _)⟩
      rw [spec_l1Cur_weavers.l0, if_neg (by omega), e, Option.bind_some]
      dsimp only
      rw [if_neg (by decide)]
  | succ n ih =>
    intro xs id at_ seed hx hz a0 a1
    obtain ⟨x, p1, s1, e1, _, _, u1, v1⟩ := pick_ok code hc at_ seed 3 a0 (by omega) (by omega)
    obtain ⟨a, b, c, d, e, p2, s2, e2, zb, u2, v2⟩ := weaver_ok code hc p1 s1 (wrap64 ((wrap64 (id + 1)) + x)) (by omega) (by omega)
    obtain ⟨o, p3, s3, e3, u3, v3⟩ := one_ok code hc p2 s2 30 (by omega) (by omega) (by omega)
    have hz2 := Sz_add xs hz ⟨a, b, c, d, e⟩ zb
    have hl2 : (xs ++ [(⟨a, b, c, d, e⟩ : WV)]).length = xs.length + 1 := by rw [List.length_append, List.length_singleton]
    have hg := l11Good_ev (xs ++ [⟨a, b, c, d, e⟩]) (by omega) (fun y hy => Nat.le_trans (hz2 y hy) (by decide))
    have en : ((n + 1 : Nat) : Int) - 1 = (n : Int) := by omega
    have ew : wrap64 (((n + 1 : Nat) : Int) - 1) = (n : Int) := by rw [wrap_id (((n + 1 : Nat) : Int) - 1) (by omega) (by omega), en]
    have st : ∀ r : List WV × Int × Int, Ev (fun k => if okWvs (xs ++ [⟨a, b, c, d, e⟩]) = true then (spec_l1Cur_weavers.l0 k (xs ++ [⟨a, b, c, d, e⟩]) (wrap64 ((wrap64 (id + 1)) + x)) (n : Int) code p2 s2) else (if o = true then (spec_l1Cur_weavers.l0 k (xs ++ [⟨a, b, c, d, e⟩]) (wrap64 ((wrap64 (id + 1)) + x)) (n : Int) code p3 s3) else (spec_l1Cur_weavers.l0 k xs (wrap64 ((wrap64 (id + 1)) + x)) (n : Int) code p3 s3))) r →
        Ev (fun k => spec_l1Cur_weavers.l0 k xs id ((n + 1 : Nat) : Int) code at_ seed) r := by
      intro r hr
      refine Ev.step (f := fun k => (spec_l11Good.f k (xs ++ [⟨a, b, c, d, e⟩])).bind fun t => (if t = true then (spec_l1Cur_weavers.l0 k (xs ++ [⟨a, b, c, d, e⟩]) (wrap64 ((wrap64 (id + 1)) + x)) (n : Int) code p2 s2) else (if o = true then (spec_l1Cur_weavers.l0 k (xs ++ [⟨a, b, c, d, e⟩]) (wrap64 ((wrap64 (id + 1)) + x)) (n : Int) code p3 s3) else (spec_l1Cur_weavers.l0 k xs (wrap64 ((wrap64 (id + 1)) + x)) (n : Int) code p3 s3)))) (fun k => ?_) (Ev.bind hg hr)
      rw [spec_l1Cur_weavers.l0, if_pos (by omega), e1]
      simp only [Option.bind_some, List.nil_append, List.length_nil, Nat.zero_add, if_pos (show xs.length < 2932031007402 by omega), e2, e3, ew]
    cases hk : okWvs (xs ++ [⟨a, b, c, d, e⟩]) with
    | true =>
      obtain ⟨ys, p4, s4, g1, g2, g3⟩ := ih (xs ++ [⟨a, b, c, d, e⟩]) (wrap64 ((wrap64 (id + 1)) + x)) p2 s2 (by omega) hz2 (by omega) (by omega)
      exact ⟨ys, p4, s4, g1, g2, st _ (by simp only [hk, if_true]; exact g3)⟩
    | false =>
      cases o with
      | true =>
        obtain ⟨ys, p4, s4, g1, g2, g3⟩ := ih (xs ++ [⟨a, b, c, d, e⟩]) (wrap64 ((wrap64 (id + 1)) + x)) p3 s3 (by omega) hz2 (by omega) (by omega)
        exact ⟨ys, p4, s4, g1, g2, st _ (by simp only [hk, if_true, Bool.false_eq_true, if_false]; exact g3)⟩
      | false =>
        obtain ⟨ys, p4, s4, g1, g2, g3⟩ := ih xs (wrap64 ((wrap64 (id + 1)) + x)) p3 s3 (by omega) hz (by omega) (by omega)
        exact ⟨ys, p4, s4, g1, g2, st _ (by simp only [hk, Bool.false_eq_true, if_false]; exact g3)⟩
theorem weavers_ok (code : List Int) (hc : codeOk code) : ∃ (l : List WV) (p s : Int), (l.length ≤ 20 ∧ Sz l) ∧ (0 ≤ p ∧ p ≤ 2000) ∧ Ev (fun k => spec_l1Cur_weavers.f k code 0 0) (l, p, s) := by
  obtain ⟨n, p, s, e, n0, n1, u, v⟩ := pick_ok code hc 0 0 7 (by omega) (by omega) (by omega)
  obtain ⟨m, rfl⟩ := Int.eq_ofNat_of_zero_le n0
  obtain ⟨l, p2, s2, g1, g2, g3⟩ := weavers_l0 code hc m [] 0 p s (by simp; omega) Sz_nil (by omega) (by omega)
  refine ⟨l, p2, s2, g1, g2, ?_⟩
  unfold spec_l1Cur_weavers.f
  simp only [e, Option.bind_some]
  exact g3
theorem weaverId_j0 (code : List Int) (hc : codeOk code) (l : List WV) (o : Bool) (at_ seed : Int) (hl : l.length ≤ 20) (ho : o = false → 0 < l.length) (a0 : 0 ≤ at_) (a1 : at_ ≤ 400000) : ∃ v p s : Int, (at_ ≤ p ∧ p ≤ at_ + 10) ∧ Ev (fun k => spec_l1Cur_weaverId.j0 k l o code at_ seed) (v, p, s) := by
  cases o with
  | true =>
    obtain ⟨v, p, s, e, _, u, w⟩ := among_ok code hc at_ seed [0, 1, 50] (by decide) a0 (by omega)
    refine ⟨v, p, s, ⟨by omega, by omega⟩, Ev.step (f := fun _ => some (v, p, s)) (fun k => ?_) (Ev.now _)⟩
    rw [spec_l1Cur_weaverId.j0, if_pos rfl, e]
    rfl
  | false =>
    have h0 := ho rfl
    obtain ⟨x, p, s, e, x0, x1, u, w⟩ := pick_ok code hc at_ seed (l.length : Int) a0 (by omega) (by omega)
    have hx : x < (l.length : Int) := by omega
    refine ⟨(rd_T26 l x).f0, p, s, ⟨by omega, by omega⟩, Ev.step (f := fun _ => some ((rd_T26 l x).f0, p, s)) (fun k => ?_) (Ev.now _)⟩
    rw [spec_l1Cur_weaverId.j0, if_neg (by decide), e, Option.bind_some]
    dsimp only
    rw [if_pos x0, if_pos hx]
theorem weaverId_ok (code : List Int) (hc : codeOk code) (l : List WV) (at_ seed : Int) (hl : l.length ≤ 20) (a0 : 0 ≤ at_) (a1 : at_ ≤ 300000) : ∃ v p s : Int, (at_ ≤ p ∧ p ≤ at_ + 20) ∧ Ev (fun k => spec_l1Cur_weaverId.f k code at_ seed l) (v, p, s) := by
  unfold spec_l1Cur_weaverId.f
  by_cases c : (l.length : Int) = 0
  · obtain ⟨v, p, s, g1, g2⟩ := weaverId_j0 code hc l true at_ seed hl (fun h => by cases h) a0 (by omega)
    simp only [if_pos c]
    exact ⟨v, p, s, ⟨by omega, by omega⟩, g2⟩
  · obtain ⟨o, p1, s1, e, u, w⟩ := one_ok code hc at_ seed 10 a0 (by omega) (by omega)
    obtain ⟨v, p, s, g1, g2⟩ := weaverId_j0 code hc l o p1 s1 hl (fun h => by omega) (by omega) (by omega)
    simp only [if_neg c, e, Option.bind_some]
    exact ⟨v, p, s, ⟨by omega, by omega⟩, g2⟩
theorem loom11_ok (code : List Int) (hc : codeOk code) (at_ seed : Int) (h0 : 0 ≤ at_) (h1 : at_ ≤ 800000) : ∃ v p s, spec_l1Cur_loom11.f code at_ seed = some (v, p, s) ∧ at_ ≤ p ∧ p ≤ at_ + 4 := by
  obtain ⟨x, a, s3, w, c, t, e1, e2, c0, c1, a2, e3, b0, b1⟩ := cut_ok code hc at_ seed [3, 3, 4, 99, 50, 0, 100] 5 (by decide) (by decide) h0 h1
  refine ⟨w, a2, t, ?_, b0, b1⟩
  unfold spec_l1Cur_loom11.f
  simp only [Option.bind_some, e1, e2, if_pos c0, if_pos c1, e3]
theorem drawDays (code : List Int) (hc : codeOk code) : ∃ (l : List WV) (a b : Int), (l.length ≤ 20 ∧ Sz l) ∧ Ev (fun k => spec_DrawDaysForKnots.f k code) (l, a, b) := by
  obtain ⟨l, p, s, h1, h2, h3⟩ := weavers_ok code hc
  obtain ⟨v, p2, s2, e, u0, u1⟩ := loom11_ok code hc p s h2.1 (by omega)
  obtain ⟨x, a, s3, w, c, t, e1, e2, c0, c1, a2, e3, _⟩ := cut_ok code hc p2 s2 [0, 1, 6000, 100000, 10000000, (-1), 10000001] 5 (by decide) (by decide) (by omega) (by omega)
  refine ⟨l, v, w, h1, ?_⟩
  unfold spec_DrawDaysForKnots.f
  refine Ev.bind h3 ?_
  simp only [Option.bind_some, e, e1, e2, if_pos c0, if_pos c1, e3]
  exact Ev.now _
theorem drawSeat (code : List Int) (hc : codeOk code) : ∃ (l : List WV) (a b : Int), (l.length ≤ 20 ∧ Sz l) ∧ Ev (fun k => spec_DrawSeatWeaver.f k code) (l, a, b) := by
  obtain ⟨l, p, s, h1, h2, h3⟩ := weavers_ok code hc
  obtain ⟨v, p1, s1, g1, g2⟩ := weaverId_ok code hc l p s h1.1 (by omega) (by omega)
  obtain ⟨v2, p2, s2, e, u0, u1⟩ := loom11_ok code hc p1 s1 (by omega) (by omega)
  refine ⟨l, v, v2, h1, ?_⟩
  unfold spec_DrawSeatWeaver.f
  refine Ev.bind h3 (Ev.bind g2 ?_)
  simp only [Option.bind_some, e]
  exact Ev.now _
theorem drawUsed (code : List Int) (hc : codeOk code) : ∃ l : List WV, (l.length ≤ 20 ∧ Sz l) ∧ Ev (fun k => spec_DrawLoomsUsed.f k code) l := by
  obtain ⟨l, p, s, h1, h2, h3⟩ := weavers_ok code hc
  refine ⟨l, h1, ?_⟩
  have h : Ev (fun k => spec_DrawAreWeavers.f k code) l := by
    unfold spec_DrawAreWeavers.f
    exact Ev.bind h3 (Ev.now _)
  unfold spec_DrawLoomsUsed.f
  exact Ev.bind h (Ev.now _)
theorem bits_low : ∀ n : Fin 16, Go.bits .and .i64 (n.val : Int) 1 = 0 ∨ Go.bits .and .i64 (n.val : Int) 1 = 1 := by decide +kernel
theorem bits_low' (x : Int) (h : 1 ≤ x ∧ x ≤ 15) : Go.bits .and .i64 x 1 = 0 ∨ Go.bits .and .i64 x 1 = 1 := by
  have := bits_low ⟨x.toNat, by omega⟩
  rwa [show ((⟨x.toNat, by omega⟩ : Fin 16).val : Int) = x by show ((x.toNat : Nat) : Int) = x; omega] at this
theorem okWvs_iff (l : List WV) (h : okWvs l = true) : l.length ≤ 8 ∧ ∀ x ∈ l, (1 ≤ x.f0 ∧ x.f0 ≤ 99) ∧ (1 ≤ x.f2 ∧ x.f2 ≤ 15) ∧ (100 ≤ x.f3 ∧ x.f3 ≤ 12000) ∧ 0 ≤ x.f4 ∧ x.f4 ≤ 99 := by
  unfold okWvs at h
  rw [Bool.and_eq_true, Bool.and_eq_true, decide_eq_true_iff] at h
  refine ⟨by omega, fun x hx => ?_⟩
  have := List.all_eq_true.1 h.2.1 x hx
  unfold okWv at this
  simp only [Bool.and_eq_true, rng_iff] at this
  exact ⟨this.1, this.2.2.1, this.2.2.2.1, this.2.2.2.2⟩
theorem getD_mem {α : Type} (z : α) (l : List α) (i : Nat) (hi : i < l.length) : l.getD i z ∈ l := by
  rw [List.getD_eq_getElem?_getD, List.getElem?_eq_getElem hi]
  exact List.getElem_mem hi
theorem knots_same (l : List WV) (hk : okWvs l = true) (a : Int) : ∃ r : Int, (0 ≤ r ∧ r ≤ 96000) ∧ Ev (fun k => spec_l11Knots.f k l a) r ∧ Ev (fun k => impl_knotsADay.f k l a) r := by
  obtain ⟨h8, hx⟩ := okWvs_iff l hk
  unfold spec_l11Knots.f impl_knotsADay.f
  refine Ev.two (fun k i (s : Int) => spec_l11Knots.l0 k l a s i) (fun k i (s : Int) => impl_knotsADay.l0 k a s l (l.length : Int) i) l.length (fun i s t => s = t ∧ 0 ≤ s ∧ s ≤ 12000 * (i : Int)) (fun r => 0 ≤ r ∧ r ≤ 96000)
    (fun s t hs => ?_) (fun i s t hi hs => .inr ?_) 0 0 ⟨rfl, by omega, by omega⟩
  · obtain ⟨rfl, h0, h1⟩ := hs
    exact ⟨s, ⟨h0, by omega⟩, Ev.step (f := fun _ => some s) (fun k => by rw [spec_l11Knots.l0, if_neg (by omega)]) (Ev.now _), Ev.step (f := fun _ => some s) (fun k => by rw [impl_knotsADay.l0, if_neg (by omega)]) (Ev.now _)⟩
  · obtain ⟨rfl, h0, h1⟩ := hs
    have e0 : rd_T26 l (i : Int) = l.getD i z26 := rfl
    have hm := hx _ (getD_mem z26 l i hi)
    obtain ⟨x, hxe⟩ : ∃ x, x = l.getD i z26 := ⟨_, rfl⟩
    rw [← hxe] at hm e0
    have hb := bits_low' x.f2 hm.2.1
    by_cases c : x.f4 = a
    · by_cases cb : Go.bits .and .i64 x.f2 1 = 0
      · refine ⟨s, s, ⟨rfl, h0, by omega⟩, fun r h => Ev.step (fun k => ?_) h, fun r h => Ev.step (fun k => ?_) h⟩
        · rw [spec_l11Knots.l0, if_pos (by omega), if_pos (by omega), e0, if_pos c, if_pos cb, wrap_id _ (by omega) (by omega)]
        · rw [impl_knotsADay.l0, if_pos (by omega), if_pos (by omega), if_pos (by omega), e0, if_pos c]
          unfold impl_Weaver_has.f
          rw [cb, Option.bind_some, if_neg (by decide), wrap_id _ (by omega) (by omega)]
      · have cb1 : Go.bits .and .i64 x.f2 1 = 1 := by omega
        refine ⟨s + x.f3, s + x.f3, ⟨rfl, by omega, by omega⟩, fun r h => Ev.step (fun k => ?_) h, fun r h => Ev.step (fun k => ?_) h⟩
        · rw [spec_l11Knots.l0, if_pos (by omega), if_pos (by omega), e0, if_pos c, if_neg cb, wrap_id (s + x.f3) (by omega) (by omega), wrap_id _ (by omega) (by omega)]
        · rw [impl_knotsADay.l0, if_pos (by omega), if_pos (by omega), if_pos (by omega), e0, if_pos c]
          unfold impl_Weaver_has.f
          rw [cb1, Option.bind_some, if_pos (by decide), wrap_id (s + x.f3) (by omega) (by omega), wrap_id _ (by omega) (by omega)]
    · refine ⟨s, s, ⟨rfl, h0, by omega⟩, fun r h => Ev.step (fun k => ?_) h, fun r h => Ev.step (fun k => ?_) h⟩
      · rw [spec_l11Knots.l0, if_pos (by omega), if_pos (by omega), e0, if_neg c, wrap_id _ (by omega) (by omega)]
      · rw [impl_knotsADay.l0, if_pos (by omega), if_pos (by omega), if_pos (by omega), e0, if_neg c, wrap_id _ (by omega) (by omega)]
theorem l11Loom_eq (a : Int) : spec_l11Loom.f a = some (rng a 1 99) := by unfold spec_l11Loom.f; rw [l1In_eq]; rfl
theorem isId_eq (a : Int) : impl_isId.f a = some (rng a 1 99) := by unfold impl_isId.f; rw [in_eq]; rfl
theorem Days_facts (t : List WV) (ht : t.length ≤ 2000000) (t2 : ∀ x ∈ t, x.f1.size ≤ 1048576) (a1 a2 : Int) : ∃ v : Int × Bool, Ev (fun k => spec_DaysForKnots.f k t a1 a2) v ∧ Ev (fun k => impl_DaysForKnots.f k t a1 a2) v ∧
    (v.2 = true → ∃ n : Int, Ev (fun k => impl_KnotsADay.f k t a1) (n, true) ∧ ¬ wrap64 (n * v.1) < a2 ∧ (v.1 > 0 → ¬ wrap64 (n * wrap64 (v.1 - 1)) ≥ a2)) := by
  unfold spec_DaysForKnots.f impl_DaysForKnots.f impl_KnotsADay.f
  simp only [AreWeavers_eq, l11Loom_eq, isId_eq, l1In_eq, in_eq, Option.bind_some]
  have hg := l11Good_ev t (by omega) t2
  have js : Ev (fun k => spec_DaysForKnots.j0 k t a1 a2 true) (0, false) := Ev.step (f := fun _ => some (0, false)) (fun k => by rw [spec_DaysForKnots.j0, if_pos rfl]) (Ev.now _)
  have ji : Ev (fun k => impl_DaysForKnots.j0 k t a1 a2 true) (0, false) := Ev.step (f := fun _ => some (0, false)) (fun k => by rw [impl_DaysForKnots.j0, if_pos rfl]) (Ev.now _)
  cases hk : okWvs t with
  | false => exact ⟨(0, false), Ev.bind hg (by simp only [hk, Bool.false_eq_true, if_false]; exact js), by simp only [Bool.false_eq_true, if_false]; exact ji, fun h => by cases h⟩
  | true =>
    cases hc : rng a1 1 99 with
    | false => exact ⟨(0, false), Ev.bind hg (by simp only [hk, if_true, Bool.false_eq_true, if_false]; exact js), by simp only [if_true, Bool.false_eq_true, if_false]; exact ji, fun h => by cases h⟩
    | true =>
      cases hd : rng a2 0 10000000 with
      | false => exact ⟨(0, false), Ev.bind hg (by simp only [hk, if_true, Bool.not_false]; exact js), by simp only [if_true, Bool.not_false]; exact ji, fun h => by cases h⟩
      | true =>
        obtain ⟨v, hv, ha, hb⟩ := knots_same t hk a1
        have hd2 := (rng_iff _ _ _).1 hd
        by_cases cv : v = 0
        · refine ⟨(0, a2 == 0), Ev.bind hg ?_, ?_, fun h => ⟨v, ?_, ?_, ?_⟩⟩
          · simp only [hk, if_true, Bool.not_true]
            exact Ev.step (fun k => by rw [spec_DaysForKnots.j0, if_neg (by decide)]) (Ev.bind ha (by simp only [if_pos cv]; exact Ev.now _))
          · simp only [if_true, Bool.not_true]
            exact Ev.step (fun k => by rw [impl_DaysForKnots.j0, if_neg (by decide)]) (Ev.bind hb (by simp only [if_pos cv, ite_self]; exact Ev.now _))
          · simp only [if_true]
            exact Ev.bind hb (Ev.now _)
          · have h2 : a2 = 0 := beq_iff_eq.1 h
            rw [cv, h2]
            show ¬ wrap64 (0 * 0) < 0
            rw [wrap_id _ (by decide) (by decide)]
            decide
          · intro h3
            exact absurd h3 (show ¬ (0 : Int) > 0 by decide)
        · have w1 : wrap64 (wrap64 (a2 + v) - 1) = a2 + v - 1 := by rw [wrap_id (a2 + v) (by omega) (by omega), wrap_id _ (by omega) (by omega)]
          have q0 := Int.mul_ediv_add_emod (a2 + v - 1) v
          have q1 := Int.emod_nonneg (a2 + v - 1) cv
          have q2 := Int.emod_lt_of_pos (a2 + v - 1) (show 0 < v by omega)
          have q3 : 0 ≤ (a2 + v - 1) / v := Int.ediv_nonneg (by omega) (by omega)
          have q4 : (a2 + v - 1) / v ≤ a2 + v - 1 := Int.ediv_le_self _ (by omega)
          have qd : wrap64 (Int.tdiv (a2 + v - 1) v) = (a2 + v - 1) / v := by
            rw [Int.tdiv_eq_ediv_of_nonneg (by omega), wrap_id _ (by omega) (by omega)]
          refine ⟨(wrap64 (Int.tdiv (a2 + v - 1) v), true), Ev.bind hg ?_, ?_, fun _ => ⟨v, ?_, ?_, ?_⟩⟩
          · simp only [hk, if_true, Bool.not_true]
            exact Ev.step (fun k => by rw [spec_DaysForKnots.j0, if_neg (by decide)]) (Ev.bind ha (by simp only [if_neg cv, w1]; exact Ev.now _))
          · simp only [if_true, Bool.not_true]
            refine Ev.step (fun k => by rw [impl_DaysForKnots.j0, if_neg (by decide)]) (Ev.bind hb ?_)
            by_cases c2 : a2 = 0
            · simp only [if_pos c2]
              have e : wrap64 (Int.tdiv (a2 + v - 1) v) = 0 := by
                rw [c2, Int.tdiv_eq_ediv_of_nonneg (by omega), Int.ediv_eq_zero_of_lt (by omega) (by omega), wrap_id _ (by omega) (by omega)]
              rw [e, c2]
              exact Ev.now _
            · unfold impl_ceilDiv.f
              simp only [if_neg c2, if_neg cv, w1, Option.bind_some]
              exact Ev.now _
          · simp only [if_true]
            exact Ev.bind hb (Ev.now _)
          · simp only [qd]
            rw [wrap_id (v * ((a2 + v - 1) / v)) (by omega) (by omega)]
            omega
          · simp only [qd]
            intro h0
            have em : v * ((a2 + v - 1) / v - 1) = v * ((a2 + v - 1) / v) - v := by rw [Int.mul_sub, Int.mul_one]
            rw [wrap_id ((a2 + v - 1) / v - 1) (by omega) (by omega), em, wrap_id (v * ((a2 + v - 1) / v) - v) (by omega) (by omega)]
            omega
theorem find_ev (l : List WV) (a : Int) (hl : l.length ≤ 2000000) : ∃ r : Int, r = findI (fun x => decide (x.f0 = a)) l ∧ (r = -1 ∨ (0 ≤ r ∧ r < (l.length : Int))) ∧ Ev (fun k => spec_l11Find.f k l a) r := by
  unfold spec_l11Find.f
  have key : ∀ d i : Nat, i + d = l.length → (∀ j : Nat, j < i → decide ((l.getD j z26).f0 = a) = false) → ∃ r : Int, r = findI (fun x => decide (x.f0 = a)) l ∧ (r = -1 ∨ (0 ≤ r ∧ r < (l.length : Int))) ∧ Ev (fun k => spec_l11Find.l0 k l a (i : Int)) r := by
    intro d
    induction d with
    | zero =>
      intro i hi h
      exact ⟨-1, (findI_miss (fun x : WV => decide (x.f0 = a)) z26 l (fun j hj => h j (by omega))).symm, .inl rfl, Ev.step (f := fun _ => some (-1)) (fun k => by rw [spec_l11Find.l0, if_neg (by omega)]) (Ev.now _)⟩
    | succ d ih =>
      intro i hi h
      have e0 : rd_T26 l (i : Int) = l.getD i z26 := rfl
      by_cases c : (l.getD i z26).f0 = a
      · exact ⟨(i : Int), (findI_hit (fun x : WV => decide (x.f0 = a)) z26 l i (by omega) h (decide_eq_true c)).symm, .inr ⟨by omega, by omega⟩, Ev.step (f := fun _ => some (i : Int)) (fun k => by rw [spec_l11Find.l0, if_pos (by omega), if_pos (by omega), e0, if_pos c]) (Ev.now _)⟩
      · obtain ⟨r, h1, h2, h3⟩ := ih (i + 1) (by omega) (fun j hj => by
          by_cases e : j = i
          · rw [e]; exact decide_eq_false c
          · exact h j (by omega))
        have e : ((i + 1 : Nat) : Int) = (i : Int) + 1 := by omega
        rw [e] at h3
        exact ⟨r, h1, h2, Ev.step (fun k => by rw [spec_l11Find.l0, if_pos (by omega), if_pos (by omega), e0, if_neg c, wrap_id _ (by omega) (by omega)]) h3⟩
  exact key l.length 0 (by omega) (fun j hj => absurd hj (by omega))
theorem with_ev (l : List WV) (hl : l.length ≤ 1048576) (t2 : ∀ x ∈ l, x.f1.size ≤ 1048576) (i : Int) (h0 : 0 ≤ i) (h1 : i < (l.length : Int)) (x : WV) (hx : x.f1.size ≤ 1048576) : Ev (fun k => spec_l11With.f k l i x.f0 x.f1 x.f2 x.f3 x.f4) (if okWvs (l.set i.toNat x) = true then (l.set i.toNat x, true) else ([], false)) := by
  unfold spec_l11With.f
  simp only [Option.bind_some, List.nil_append, List.length_nil, if_pos (show 0 + l.length < 2932031007402 by omega), if_pos h0, if_pos h1]
  refine Ev.bind (l11Good_ev (l.set i.toNat x) (by rw [List.length_set]; omega) (fun y hy => by
    rcases List.mem_or_eq_of_mem_set hy with h | h
    · exact t2 y h
    · rw [h]; exact hx)) ?_
  cases okWvs (l.set i.toNat x) <;> exact Ev.now _
theorem findWeaver_eq (l : List WV) (a : Int) : impl_findWeaver.f l a = some (if okWvs l = true then findI (fun x => decide (x.f0 = a)) l else -1) := by
  unfold impl_findWeaver.f
  rw [AreWeavers_eq, Option.bind_some]
theorem SeatWeaver_more (t : List WV) (ht : t.length ≤ 1048576) (t2 : ∀ x ∈ t, x.f1.size ≤ 1048576) (a b : Int) : ∃ v : List WV × Bool, (v.1.length ≤ t.length ∧ (v.2 = true → okWvs v.1 = true)) ∧ Ev (fun k => spec_SeatWeaver.f k t a b) v ∧ impl_SeatWeaver.f t a b = some v := by
  obtain ⟨r, hr, hb, hf⟩ := find_ev t a (by omega)
  have hg := l11Good_ev t (by omega) t2
  unfold spec_SeatWeaver.f impl_SeatWeaver.f
  rw [findWeaver_eq, Option.bind_some, ← hr]
  cases hk : okWvs t with
  | false =>
    refine ⟨([], false), ⟨by simp, fun h => by cases h⟩, Ev.bind hf (Ev.bind hg ?_), ?_⟩
    · simp only [hk, Bool.false_eq_true, if_false]; exact Ev.now _
    · simp only [Bool.false_eq_true, if_false]; rfl
  | true =>
    by_cases c : r < 0
    · refine ⟨([], false), ⟨by simp, fun h => by cases h⟩, Ev.bind hf (Ev.bind hg ?_), ?_⟩
      · simp only [hk, if_true, if_pos c]; exact Ev.now _
      · simp only [if_true, if_pos c]
    · have h0 : 0 ≤ r := by omega
      have h1 : r < (t.length : Int) := by rcases hb with h | h; omega; exact h.2
      have hmem : rd_T26 t r ∈ t := getD_mem z26 t r.toNat (by omega)
      have hw := with_ev t ht t2 r h0 h1 ⟨(rd_T26 t r).f0, (rd_T26 t r).f1, (rd_T26 t r).f2, (rd_T26 t r).f3, b⟩ (show (rd_T26 t r).f1.size ≤ 1048576 from t2 _ hmem)
      have hc : slices_Clone_wv.f t = some t := by unfold slices_Clone_wv.f; rw [if_pos (by omega)]
      obtain ⟨u, hu⟩ : ∃ u, u = t.set r.toNat ⟨(rd_T26 t r).f0, (rd_T26 t r).f1, (rd_T26 t r).f2, (rd_T26 t r).f3, b⟩ := ⟨_, rfl⟩
      have hul : u.length = t.length := by rw [hu, List.length_set]
      rw [← hu] at hw
      refine ⟨if okWvs u = true then (u, true) else ([], false), ?_, Ev.bind hf (Ev.bind hg ?_), ?_⟩
      · split
        · rename_i h
          exact ⟨by dsimp only; omega, fun _ => h⟩
        · exact ⟨by simp, fun h => by cases h⟩
      · simp only [hk, if_true, if_neg c, if_pos h0, if_pos h1]
        exact Ev.bind hw (Ev.now _)
      · simp only [if_true, if_neg c, hc, Option.bind_some, if_pos h0, if_pos h1, AreWeavers_eq, ← hu]
        split <;> rfl
theorem sitters_ev (l : List WV) (a : Int) (hl : l.length ≤ 1000000) : Ev (fun k => impl_sitters.f k l a) (sitN l a) :=
  ⟨l.length + 1, fun k hk => sitN_l0 l a hl l.length k 0 0 (by omega) (by omega) (by simp)⟩
theorem looms_two (l : List WV) (hl : l.length ≤ 8) : ∃ r : List Int × List Int × Bool, (r.1.length ≤ 99 ∧ r.2.1.length ≤ 99) ∧ Ev (fun k => spec_LoomsUsed.l0 k l [] [] 1) r ∧ Ev (fun k => impl_LoomsUsed.l0 k l [] [] 1) r := by
  refine Ev.two (fun k i (s : List Int × List Int) => spec_LoomsUsed.l0 k l s.1 s.2 (i + 1)) (fun k i (s : List Int × List Int) => impl_LoomsUsed.l0 k l s.1 s.2 (i + 1)) 99 (fun i s t => s = t ∧ s.1.length ≤ i ∧ s.2.length ≤ i) (fun r => r.1.length ≤ 99 ∧ r.2.1.length ≤ 99)
    (fun s t hs => ?_) (fun i s t hi hs => .inr ?_) ([], []) ([], []) ⟨rfl, by simp, by simp⟩
  · obtain ⟨rfl, h1, h2⟩ := hs
    exact ⟨(s.1, s.2, true), ⟨h1, h2⟩, Ev.step (f := fun _ => some (s.1, s.2, true)) (fun k => by rw [spec_LoomsUsed.l0, if_neg (by omega)]) (Ev.now _), Ev.step (f := fun _ => some (s.1, s.2, true)) (fun k => by rw [impl_LoomsUsed.l0, if_neg (by omega)]) (Ev.now _)⟩
  · obtain ⟨rfl, h1, h2⟩ := hs
    have ha := seats_ev l ((i : Int) + 1) (by omega)
    have hb := sitters_ev l ((i : Int) + 1) (by omega)
    by_cases c : sitN l ((i : Int) + 1) > 0
    · refine ⟨(s.1 ++ [(i : Int) + 1], s.2 ++ [sitN l ((i : Int) + 1)]), _, ⟨rfl, by rw [List.length_append, List.length_singleton]; omega, by rw [List.length_append, List.length_singleton]; omega⟩, fun r h => Ev.step (fun k => by rw [spec_LoomsUsed.l0, if_pos (by omega)]) (Ev.bind ha ?_), fun r h => Ev.step (fun k => by rw [impl_LoomsUsed.l0, if_pos (by omega)]) (Ev.bind hb ?_)⟩
      · simp only [if_pos c, if_pos (show s.1.length < 17592186044416 by omega), if_pos (show s.2.length < 17592186044416 by omega)]
        rw [wrap_id _ (by omega) (by omega)]
        exact h
      · simp only [if_pos c, if_pos (show s.1.length < 17592186044416 by omega), if_pos (show s.2.length < 17592186044416 by omega)]
        rw [wrap_id _ (by omega) (by omega)]
        exact h
    · refine ⟨s, s, ⟨rfl, by omega, by omega⟩, fun r h => Ev.step (fun k => by rw [spec_LoomsUsed.l0, if_pos (by omega)]) (Ev.bind ha ?_), fun r h => Ev.step (fun k => by rw [impl_LoomsUsed.l0, if_pos (by omega)]) (Ev.bind hb ?_)⟩
      · simp only [if_neg c]
        rw [wrap_id _ (by omega) (by omega)]
        exact h
      · simp only [if_neg c]
        rw [wrap_id _ (by omega) (by omega)]
        exact h
theorem LoomsUsed_same (t : List WV) (ht : t.length ≤ 2000000) (t2 : ∀ x ∈ t, x.f1.size ≤ 1048576) : ∃ v : List Int × List Int × Bool, (v.1.length ≤ 99 ∧ v.2.1.length ≤ 99) ∧ Ev (fun k => spec_LoomsUsed.f k t) v ∧ Ev (fun k => impl_LoomsUsed.f k t) v := by
  unfold spec_LoomsUsed.f impl_LoomsUsed.f
  simp only [AreWeavers_eq, Option.bind_some]
  have hg := l11Good_ev t ht t2
  cases hk : okWvs t with
  | false => exact ⟨([], [], false), ⟨by simp, by simp⟩, Ev.bind hg (by simp only [hk, Bool.false_eq_true, if_false]; exact Ev.now _), by simp only [Bool.false_eq_true, if_false]; exact Ev.now _⟩
  | true =>
    obtain ⟨v, hv, ha, hb⟩ := looms_two t (okWvs_iff t hk).1
    exact ⟨v, hv, Ev.bind hg (by simp only [hk, if_true]; exact ha), by simp only [if_true]; exact hb⟩
theorem Ev.uniq {α : Type} {g : Nat → Option α} {a b : α} (h : Ev g a) (k : Ev g b) : a = b := by
  obtain ⟨K1, h1⟩ := h
  obtain ⟨K2, h2⟩ := k
  have e1 := h1 (K1 + K2) (by omega)
  rw [h2 (K1 + K2) (by omega)] at e1
  exact (Option.some.inj e1).symm
def usedL (l : List WV) (n : Nat) : List Int := ((List.range n).map (fun i : Nat => (i : Int) + 1)).filter (fun a => decide (0 < sitN l a))
theorem usedL_succ (l : List WV) (n : Nat) : usedL l (n + 1) = usedL l n ++ if 0 < sitN l ((n : Int) + 1) then [(n : Int) + 1] else [] := by
  unfold usedL
  rw [List.range_succ, List.map_append, List.filter_append]
  congr 1
  by_cases c : 0 < sitN l ((n : Int) + 1)
  · simp [c]
  · simp [c]
theorem usedL_len (l : List WV) (n : Nat) : (usedL l n).length ≤ n := by
  have := List.length_filter_le (fun a => decide (0 < sitN l a)) ((List.range n).map (fun i : Nat => (i : Int) + 1))
  rwa [List.length_map, List.length_range] at this
theorem looms_val (l : List WV) (hl : l.length ≤ 8) : Ev (fun k => spec_LoomsUsed.l0 k l [] [] 1) (usedL l 99, (usedL l 99).map (sitN l), true) := by
  obtain ⟨r, hr, h⟩ := Ev.loopE (fun k i (s : List Int × List Int) => spec_LoomsUsed.l0 k l s.1 s.2 (i + 1)) 99 (fun i s => s.1 = usedL l i ∧ s.2 = (usedL l i).map (sitN l)) (fun r => r = (usedL l 99, (usedL l 99).map (sitN l), true))
    (fun s hs => ⟨(s.1, s.2, true), by rw [hs.1, hs.2], Ev.step (f := fun _ => some (s.1, s.2, true)) (fun k => by rw [spec_LoomsUsed.l0, if_neg (by omega)]) (Ev.now _)⟩)
    (fun i s hi hs => by
      obtain ⟨h1, h2⟩ := hs
      have ha := seats_ev l ((i : Int) + 1) (by omega)
      have hle := usedL_len l i
      have k1 : s.1.length ≤ 99 := by rw [h1]; omega
      have k2 : s.2.length ≤ 99 := by rw [h2, List.length_map]; omega
      by_cases c : sitN l ((i : Int) + 1) > 0
      · refine ⟨(s.1 ++ [(i : Int) + 1], s.2 ++ [sitN l ((i : Int) + 1)]), ?_, fun r h => Ev.step (fun k => by rw [spec_LoomsUsed.l0, if_pos (by omega)]) (Ev.bind ha ?_)⟩
        · rw [usedL_succ, if_pos c, List.map_append, h1, h2]
          exact ⟨rfl, rfl⟩
        · simp only [if_pos c, if_pos (show s.1.length < 17592186044416 by omega), if_pos (show s.2.length < 17592186044416 by omega)]
          rw [wrap_id _ (by omega) (by omega)]
          exact h
      · refine ⟨s, ?_, fun r h => Ev.step (fun k => by rw [spec_LoomsUsed.l0, if_pos (by omega)]) (Ev.bind ha ?_)⟩
        · rw [usedL_succ, if_neg c, List.append_nil]
          exact ⟨h1, h2⟩
        · simp only [if_neg c]
          rw [wrap_id _ (by omega) (by omega)]
          exact h) ([], []) ⟨rfl, rfl⟩
  subst hr
  exact h
def tot : List Int → Int | [] => 0 | x :: r => x + tot r
theorem tot_append (a b : List Int) : tot (a ++ b) = tot a + tot b := by
  induction a with
  | nil => rw [List.nil_append]; show tot b = 0 + tot b; omega
  | cons x r ih => rw [List.cons_append]; show x + tot (r ++ b) = x + tot r + tot b; rw [ih]; omega
theorem rSum_ev (l : List Int) (hl : l.length ≤ 1000) (hb : ∀ x ∈ l, 0 ≤ x ∧ x ≤ 1000) : Ev (fun k => laws_rSum.f k l) (tot l) := by
  unfold laws_rSum.f
  obtain ⟨r, hr, h⟩ := Ev.loopE (fun k i (s : Int) => laws_rSum.l0 k l s i) l.length (fun i s => s = tot (l.take i) ∧ 0 ≤ s ∧ s ≤ 1000 * (i : Int)) (fun r => r = tot l)
    (fun s hs => ⟨s, by rw [hs.1, List.take_length], Ev.step (f := fun _ => some s) (fun k => by rw [laws_rSum.l0, if_neg (by omega)]) (Ev.now _)⟩)
    (fun i s hi hs => by
      obtain ⟨h1, h2, h3⟩ := hs
      have e0 : rd l (i : Int) = l[i] := by
        show l.getD i 0 = l[i]
        rw [List.getD_eq_getElem?_getD, List.getElem?_eq_getElem hi]
        rfl
      have hm := hb _ (List.getElem_mem hi)
      refine ⟨s + l[i], ⟨by rw [List.take_succ_eq_append_getElem hi, tot_append, h1]; show _ = _ + (l[i] + 0); omega, by omega, by omega⟩, fun r h => Ev.step (fun k => ?_) h⟩
      rw [laws_rSum.l0, if_pos (by omega), if_pos (by omega), e0, wrap_id (s + l[i]) (by omega) (by omega), wrap_id _ (by omega) (by omega)]) 0 ⟨rfl, by omega, by omega⟩
  subst hr
  exact h
def tots (l : List WV) : Nat → Int | 0 => 0 | n + 1 => tots l n + sitN l ((n : Int) + 1)
theorem sitN_nonneg (l : List WV) (a : Int) : 0 ≤ sitN l a := by unfold sitN; omega
theorem tots_used (l : List WV) (n : Nat) : tot ((usedL l n).map (sitN l)) = tots l n := by
  induction n with
  | zero => rfl
  | succ n ih =>
    rw [usedL_succ, List.map_append, tot_append, ih]
    show _ = tots l n + sitN l ((n : Int) + 1)
    have := sitN_nonneg l ((n : Int) + 1)
    by_cases c : 0 < sitN l ((n : Int) + 1)
    · rw [if_pos c]; show _ + (sitN l ((n : Int) + 1) + 0) = _; omega
    · rw [if_neg c]; show _ + 0 = _; omega
theorem sitN_cons (x : WV) (l : List WV) (a : Int) : sitN (x :: l) a = sitN l a + if x.f4 = a then 1 else 0 := by
  unfold sitN
  by_cases c : x.f4 = a
  · simp [c]
  · simp [c]
theorem tots_cons (x : WV) (l : List WV) (n : Nat) : tots (x :: l) n = tots l n + if 0 < x.f4 ∧ x.f4 ≤ (n : Int) then 1 else 0 := by
  induction n with
  | zero =>
    show (0 : Int) = 0 + _
    rw [if_neg (by omega)]; rfl
  | succ n ih =>
    show tots (x :: l) n + sitN (x :: l) ((n : Int) + 1) = tots l n + sitN l ((n : Int) + 1) + _
    rw [ih, sitN_cons]
    by_cases c : x.f4 = (n : Int) + 1
    · rw [if_pos c, if_neg (by omega), if_pos (by omega)]; omega
    · rw [if_neg c]
      by_cases d : 0 < x.f4 ∧ x.f4 ≤ (n : Int)
      · rw [if_pos d, if_pos (by omega)]; omega
      · rw [if_neg d, if_neg (by omega)]; omega
def cnt (l : List WV) : Int := ((l.filter fun x => decide (0 < x.f4)).length : Int)
theorem sitN_le (l : List WV) (a : Int) : sitN l a ≤ (l.length : Int) := by
  unfold sitN
  exact Int.ofNat_le.2 (List.length_filter_le _ _)
theorem cnt_snoc (l : List WV) (x : WV) : cnt (l ++ [x]) = cnt l + if 0 < x.f4 then 1 else 0 := by
  unfold cnt
  rw [List.filter_append, List.length_append]
  by_cases c : 0 < x.f4
  · simp [c]
  · simp [c]
theorem tots_zero (n : Nat) : tots [] n = 0 := by
  induction n with
  | zero => rfl
  | succ n ih => show tots [] n + sitN [] _ = 0; rw [ih]; rfl
theorem tots_cnt (l : List WV) (h : ∀ x ∈ l, 0 ≤ x.f4 ∧ x.f4 ≤ 99) : tots l 99 = cnt l := by
  induction l with
  | nil => exact tots_zero 99
  | cons x r ih =>
    have hx := h x (List.mem_cons_self ..)
    rw [tots_cons, ih (fun y hy => h y (List.mem_cons_of_mem _ hy))]
    unfold cnt
    by_cases c : 0 < x.f4
    · rw [if_pos ⟨c, by show x.f4 ≤ (99 : Int); omega⟩]; simp [c]
    · rw [if_neg (by omega)]; simp [c]
theorem used_mem (l : List WV) (x : WV) (hx : x ∈ l) (h : 0 < x.f4 ∧ x.f4 ≤ 99) : x.f4 ∈ usedL l 99 := by
  unfold usedL
  refine List.mem_filter.2 ⟨List.mem_map.2 ⟨(x.f4 - 1).toNat, List.mem_range.2 (by omega), by omega⟩, decide_eq_true ?_⟩
  unfold sitN
  have : x ∈ l.filter fun y => decide (y.f4 = x.f4) := List.mem_filter.2 ⟨hx, decide_eq_true rfl⟩
  have := List.length_pos_of_mem this
  show 0 < ((l.filter fun y => decide (y.f4 = x.f4)).length : Int)
  omega
theorem LoomsUsed_facts (t : List WV) (ht : t.length ≤ 2000000) (t2 : ∀ x ∈ t, x.f1.size ≤ 1048576) : ∃ v : List Int × List Int × Bool, (v.1.length ≤ 99 ∧ v.2.1.length ≤ 99) ∧ Ev (fun k => spec_LoomsUsed.f k t) v ∧ Ev (fun k => impl_LoomsUsed.f k t) v ∧ (v.2.2 = true → okWvs t = true ∧ v.1 = usedL t 99 ∧ v.2.1 = (usedL t 99).map (sitN t)) := by
  obtain ⟨v, hv, h1, h2⟩ := LoomsUsed_same t ht t2
  refine ⟨v, hv, h1, h2, ?_⟩
  have hg := l11Good_ev t ht t2
  cases hk : okWvs t with
  | false =>
    have h3 : Ev (fun k => spec_LoomsUsed.f k t) ([], [], false) := by
      unfold spec_LoomsUsed.f
      simp only [Option.bind_some]
      exact Ev.bind hg (by simp only [hk, Bool.false_eq_true, if_false]; exact Ev.now _)
    rw [Ev.uniq h1 h3]
    intro h; cases h
  | true =>
    have h3 : Ev (fun k => spec_LoomsUsed.f k t) (usedL t 99, (usedL t 99).map (sitN t), true) := by
      unfold spec_LoomsUsed.f
      simp only [Option.bind_some]
      exact Ev.bind hg (by simp only [hk, if_true]; exact looms_val t (okWvs_iff t hk).1)
    rw [Ev.uniq h1 h3]
    exact fun _ => ⟨rfl, rfl, rfl⟩
theorem cmpW_neg (a b : Int) : cmpW a b < 0 ↔ a < b := by
  unfold cmpW
  split
  · constructor
    · intro _; assumption
    · intro _; decide
  · split
    · constructor
      · intro h; exact absurd h (by decide)
      · intro h; omega
    · constructor
      · intro h; exact absurd h (by decide)
      · intro h; omega
def stepW (acc : Option WV) (x : WV) : Option WV := match acc with | none => some x | some m => if impl_FastestFree_2.of x m < 0 then some x else some m
def pickW (t : List WV) : Option WV := (freeW t).foldl stepW none
def ansW : Option WV → Int × Bool | none => (0, false) | some m => (m.f0, true)
theorem getDW (t : List WV) (i : Nat) (hi : i < t.length) : t[i] = t.getD i z26 := by
  rw [List.getD_eq_getElem?_getD, List.getElem?_eq_getElem hi]
  rfl
theorem minToW_fold (xs : List WV) : ∀ i, i < xs.length → (xs.take (i + 1)).foldl stepW none = some (minTo_wv impl_FastestFree_2.of xs i) := by
  intro i
  induction i with
  | zero =>
    intro h
    rw [List.take_succ_eq_append_getElem h, getDW xs 0 h]
    rfl
  | succ i ih =>
    intro h
    rw [List.take_succ_eq_append_getElem h, List.foldl_append, ih (by omega), getDW xs (i + 1) h]
    have e : stepW (some (minTo_wv impl_FastestFree_2.of xs i)) (xs.getD (i + 1) z26) = if impl_FastestFree_2.of (xs.getD (i + 1) z26) (minTo_wv impl_FastestFree_2.of xs i) < 0 then some (xs.getD (i + 1) z26) else some (minTo_wv impl_FastestFree_2.of xs i) := rfl
    show stepW (some _) _ = _
    rw [e, minTo_wv]
    by_cases c : impl_FastestFree_2.of (xs.getD (i + 1) z26) (minTo_wv impl_FastestFree_2.of xs i) < 0
    · rw [if_pos c, if_pos c]
    · rw [if_neg c, if_neg c]
theorem pickW_min (t : List WV) (h : 0 < (freeW t).length) : pickW t = some (minTo_wv impl_FastestFree_2.of (freeW t) ((freeW t).length - 1)) := by
  have e := minToW_fold (freeW t) ((freeW t).length - 1) (by omega)
  rw [List.take_of_length_le (by omega)] at e
  exact e
theorem pickW_snoc (t : List WV) (i : Nat) (hi : i < t.length) : pickW (t.take (i + 1)) = if delF (t.getD i z26) = true then pickW (t.take i) else stepW (pickW (t.take i)) (t.getD i z26) := by
  unfold pickW freeW
  rw [List.take_succ_eq_append_getElem hi, List.filter_append, List.foldl_append, getDW t i hi]
  cases c : delF (t.getD i z26) with
  | true => rw [if_pos rfl, List.filter_cons_of_neg (by rw [c]; decide)]; rfl
  | false => rw [if_neg (by decide), List.filter_cons_of_pos (by rw [c]; rfl)]; rfl
theorem fastLoop (t : List WV) (hk : okWvs t = true) : Ev (fun k => spec_FastestFree.l0 k t (-1) 0) (ansW (pickW t)) := by
  obtain ⟨hl, hw⟩ := okWvs_iff t hk
  obtain ⟨r, hr, h⟩ := Ev.loopE (fun k i (b : Int) => spec_FastestFree.l0 k t b i) t.length (fun i b => (b = -1 ∧ pickW (t.take i) = none) ∨ ∃ j : Nat, b = (j : Int) ∧ j < t.length ∧ pickW (t.take i) = some (t.getD j z26)) (fun r => r = ansW (pickW t))
    (fun b hb => by
      rw [List.take_length] at hb
      rcases hb with ⟨rfl, hp⟩ | ⟨j, rfl, hj, hp⟩
      · exact ⟨(0, false), by rw [hp]; rfl, Ev.step (f := fun _ => some (0, false)) (fun k => by rw [spec_FastestFree.l0, if_neg (by omega), if_pos (by decide)]) (Ev.now _)⟩
      · exact ⟨((t.getD j z26).f0, true), by rw [hp]; rfl, Ev.step (f := fun _ => some ((t.getD j z26).f0, true)) (fun k => by rw [spec_FastestFree.l0, if_neg (by omega), if_neg (by omega), if_pos (by omega), if_pos (by omega)]; rfl) (Ev.now _)⟩)
    (fun i b hi hb => by
      have e1 := pickW_snoc t i hi
      have w1 : wrap64 ((i : Int) + 1) = (i : Int) + 1 := wrap_id _ (by omega) (by omega)
      have e0 : rd_T26 t (i : Int) = t.getD i z26 := rfl
      have hm := (hw _ (getD_mem z26 t i hi)).2.1
      have hbit := bits_low' _ hm
      by_cases c1 : (t.getD i z26).f4 = 0
      · rcases hbit with c2 | c2
        · have d : delF (t.getD i z26) = true := by unfold delF; rw [c2, c1]; decide
          rw [if_pos d] at e1
          exact ⟨b, by rw [e1]; exact hb, fun r h => Ev.step (fun k => by rw [spec_FastestFree.l0, if_pos (by omega), if_pos (by omega), e0, if_pos c1, if_pos c2, w1]) h⟩
        · have d : delF (t.getD i z26) = false := by unfold delF; rw [c2, c1]; decide
          have c3 : ¬ Go.bits .and .i64 (t.getD i z26).f2 1 = 0 := by rw [c2]; decide
          rw [d, if_neg (by decide)] at e1
          rcases hb with ⟨rfl, hp⟩ | ⟨j, rfl, hj, hp⟩
          · rw [hp] at e1
            exact ⟨(i : Int), .inr ⟨i, rfl, hi, e1⟩, fun r h => Ev.step (fun k => by
              rw [spec_FastestFree.l0, if_pos (by omega), if_pos (by omega), e0, if_pos c1, if_neg c3, if_pos (by decide), w1]) h⟩
          · rw [hp] at e1
            have e2 : stepW (some (t.getD j z26)) (t.getD i z26) = if impl_FastestFree_2.of (t.getD i z26) (t.getD j z26) < 0 then some (t.getD i z26) else some (t.getD j z26) := rfl
            have e3 : rd_T26 t (j : Int) = t.getD j z26 := rfl
            rw [e2] at e1
            have hof : impl_FastestFree_2.of (t.getD i z26) (t.getD j z26) < 0 ↔ (t.getD i z26).f3 > (t.getD j z26).f3 := cmpW_neg _ _
            by_cases d : (t.getD i z26).f3 > (t.getD j z26).f3
            · rw [if_pos (hof.2 d)] at e1
              exact ⟨(i : Int), .inr ⟨i, rfl, hi, e1⟩, fun r h => Ev.step (fun k => by
                rw [spec_FastestFree.l0, if_pos (by omega), if_pos (by omega), e0, if_pos c1, if_neg c3, if_neg (by omega), if_pos (by omega), if_pos (by omega), e3, if_pos d, w1]) h⟩
            · rw [if_neg (fun h => d (hof.1 h))] at e1
              exact ⟨(j : Int), .inr ⟨j, rfl, hj, e1⟩, fun r h => Ev.step (fun k => by
                rw [spec_FastestFree.l0, if_pos (by omega), if_pos (by omega), e0, if_pos c1, if_neg c3, if_neg (by omega), if_pos (by omega), if_pos (by omega), e3, if_neg d, w1]) h⟩
      · have d : delF (t.getD i z26) = true := by
          unfold delF
          rw [show ((t.getD i z26).f4 != 0) = true from bne_iff_ne.2 c1]
          rfl
        rw [if_pos d] at e1
        exact ⟨b, by rw [e1]; exact hb, fun r h => Ev.step (fun k => by rw [spec_FastestFree.l0, if_pos (by omega), if_pos (by omega), e0, if_neg c1, w1]) h⟩) (-1) (.inl ⟨rfl, rfl⟩)
  subst hr
  exact h
theorem Fastest_same (t : List WV) (ht : t.length ≤ 1000000) (t2 : ∀ x ∈ t, x.f1.size ≤ 1048576) : ∃ v : Int × Bool, Ev (fun k => spec_FastestFree.f k t) v ∧ impl_FastestFree.f t = some v := by
  have hg := l11Good_ev t (by omega) t2
  unfold spec_FastestFree.f impl_FastestFree.f
  simp only [AreWeavers_eq, Option.bind_some]
  cases hk : okWvs t with
  | false => exact ⟨(0, false), Ev.bind hg (by simp only [hk, Bool.false_eq_true, if_false]; exact Ev.now _), rfl⟩
  | true =>
    have hL := fastLoop t hk
    refine ⟨ansW (pickW t), Ev.bind hg (by simp only [hk, if_true]; exact hL), ?_⟩
    rw [if_pos rfl, if_pos ht]
    by_cases h0 : (freeW t).length = 0
    · rw [if_pos h0]
      have : pickW t = none := by unfold pickW; rw [List.eq_nil_of_length_eq_zero h0]; rfl
      rw [this]
      rfl
    · rw [if_neg h0, pickW_min t (by omega)]
      rfl
theorem rInts_ev (l : List Int) (hl : l.length ≤ 1000) : Ev (fun k => laws_rInts.f k l l) true := by
  refine Ev.congr (f := fun k => laws_rInts.l0 k l l 0) (fun k => by unfold laws_rInts.f; rw [if_pos rfl]) ?_
  obtain ⟨r, hr, h⟩ := Ev.loopE (fun k i (_ : Unit) => laws_rInts.l0 k l l i) l.length (fun _ _ => True) (fun r => r = true)
    (fun s _ => ⟨true, rfl, Ev.step (f := fun _ => some true) (fun k => by rw [laws_rInts.l0, if_neg (by omega)]) (Ev.now true)⟩)
    (fun i s hi _ => ⟨(), trivial, fun r h => Ev.step (fun k => by rw [laws_rInts.l0, if_pos (by omega), if_pos (by omega), if_pos (by omega), if_pos rfl, wrap_id _ (by omega) (by omega)]) h⟩) () trivial
  subst hr
  exact h
theorem rWvs_ev (l : List WV) (hl : l.length ≤ 1000) : Ev (fun k => laws_rWeavers.f k l l) true := by
  refine Ev.congr (f := fun k => laws_rWeavers.l0 k l l 0) (fun k => by unfold laws_rWeavers.f; rw [if_pos rfl]) ?_
  obtain ⟨r, hr, h⟩ := Ev.loopE (fun k i (_ : Unit) => laws_rWeavers.l0 k l l i) l.length (fun _ _ => True) (fun r => r = true)
    (fun s _ => ⟨true, rfl, Ev.step (f := fun _ => some true) (fun k => by rw [laws_rWeavers.l0, if_neg (by omega)]) (Ev.now true)⟩)
    (fun i s hi _ => ⟨(), trivial, fun r h => Ev.step (fun k => by
      rw [laws_rWeavers.l0, if_pos (by omega), if_pos (by omega), if_pos (by omega)]
      simp only [beq_self_eq_true, Bool.not_true, Bool.or_self, Bool.false_eq_true, if_false]
      rw [wrap_id _ (by omega) (by omega)]) h⟩) () trivial
  subst hr
  exact h
theorem rHas_l0 (l : List Int) (a : Int) (hl : l.length ≤ 1000) (d : Nat) : ∀ i : Nat, i + d = l.length → Ev (fun k => laws_rHas.l0 k l a (i : Int)) (decide (a ∈ l.drop i)) := by
  induction d with
  | zero =>
    intro i hi
    rw [List.drop_eq_nil_of_le (by omega), decide_eq_false (by simp)]
    exact Ev.step (f := fun _ => some false) (fun k => by rw [laws_rHas.l0, if_neg (by omega)]) (Ev.now _)
  | succ d ih =>
    intro i hi
    have e : l.drop i = rd l (i : Int) :: l.drop (i + 1) := by
      rw [List.drop_eq_getElem_cons (show i < l.length by omega)]
      show _ = l.getD i 0 :: _
      rw [List.getD_eq_getElem?_getD, List.getElem?_eq_getElem (by omega)]
      rfl
    rw [e]
    by_cases c : rd l (i : Int) = a
    · rw [decide_eq_true (by rw [c]; exact List.mem_cons_self ..)]
      exact Ev.step (f := fun _ => some true) (fun k => by rw [laws_rHas.l0, if_pos (by omega), if_pos (by omega), if_pos c]) (Ev.now _)
    · have G := ih (i + 1) (by omega)
      rw [show ((i + 1 : Nat) : Int) = (i : Int) + 1 by omega] at G
      rw [show decide (a ∈ rd l (i : Int) :: l.drop (i + 1)) = decide (a ∈ l.drop (i + 1)) from decide_eq_decide.2 ⟨fun h => (List.mem_cons.1 h).resolve_left (fun h => c h.symm), fun h => List.mem_cons_of_mem _ h⟩]
      exact Ev.step (fun k => by rw [laws_rHas.l0, if_pos (by omega), if_pos (by omega), if_neg c, wrap_id _ (by omega) (by omega)]) G
theorem rHas_ev (l : List Int) (a : Int) (hl : l.length ≤ 1000) : Ev (fun k => laws_rHas.f k l a) (decide (a ∈ l)) := rHas_l0 l a hl l.length 0 (by omega)
theorem FnWeavers (l0 : List (Int)) (q_l0 : (l0.length ≤ maxLen ∧ ∀ q ∈ l0, (Lit.int .u8 q).wf = true)) : ∃ k, laws_FnWeavers.f k l0 = some true := by
  by_cases hb : (l0.length : Int) > 65536
  · refine ⟨0, ?_⟩
    unfold laws_FnWeavers.f laws_rBig.f
    rw [Option.bind_some, decide_eq_true hb, if_pos rfl]
  · have hc : codeOk l0 := codeOk_of l0 (by omega) q_l0.2
    have big : ∀ {l : List WV}, Sz l → ∀ x ∈ l, x.f1.size ≤ 1048576 := fun h x hx => Nat.le_trans (h x hx) (by decide)
    have fin : Ev (fun k => laws_FnWeavers.f k l0) true := by
      have j2 : Ev (fun k => laws_FnWeavers.j2 k l0 false) true := by
        obtain ⟨t, ⟨h1, h2⟩, d1⟩ := drawUsed l0 hc
        obtain ⟨v, ⟨hv1, hv2⟩, s1, s2, hval⟩ := LoomsUsed_facts t (by omega) (big h2)
        obtain ⟨f, f1, f2⟩ := Fastest_same t (by omega) (big h2)
        have e0 : ∀ i : Nat, rd_T26 t (i : Int) = t.getD i z26 := fun _ => rfl
        have last : ∀ (c i : Int), (v.2.2 = true → tot v.2.1 = c ∧ ∀ x ∈ v.2.1, 0 ≤ x ∧ x ≤ 1000) → Ev (fun k => laws_FnWeavers.j5 k t v.1 v.2.1 v.2.2 c i false) true := by
          intro c i hsum
          refine Ev.step (fun k => by rw [laws_FnWeavers.j5, if_neg (by decide), f2, Option.bind_some]) (Ev.bind f1 ?_)
          simp only [if_true, beq_self_eq_true]
          cases ho : v.2.2 with
          | false => simp only [Bool.false_eq_true, if_false]; exact Ev.now _
          | true =>
            obtain ⟨g1, g2⟩ := hsum ho
            simp only [if_true]
            refine Ev.bind (rSum_ev v.2.1 (by omega) g2) ?_
            rw [g1, beq_self_eq_true]
            exact Ev.now _
        have lp : Ev (fun k => laws_FnWeavers.l0 k t v.1 v.2.1 v.2.2 0 0) true := by
          cases ho : v.2.2 with
          | false =>
            have L := last 0 0 (fun h => by rw [ho] at h; cases h)
            rw [ho] at L
            exact Ev.step (fun k => by rw [laws_FnWeavers.l0, ite_self]) L
          | true =>
            obtain ⟨hk, hu, hs⟩ := hval ho
            have hx := (okWvs_iff t hk).2
            have h8 := (okWvs_iff t hk).1
            have hsum : tot v.2.1 = cnt t ∧ ∀ x ∈ v.2.1, 0 ≤ x ∧ x ≤ 1000 := by
              refine ⟨by rw [hs, tots_used, tots_cnt t (fun x hx' => ⟨(hx x hx').2.2.2.1, (hx x hx').2.2.2.2⟩)], fun x hx' => ?_⟩
              rw [hs] at hx'
              obtain ⟨a, _, rfl⟩ := List.mem_map.1 hx'
              refine ⟨sitN_nonneg t a, ?_⟩
              have := sitN_le t a
              omega
            have go : ∀ d i : Nat, i + d = t.length → Ev (fun k => laws_FnWeavers.l0 k t v.1 v.2.1 true (cnt (t.take i)) (i : Int)) true := by
              intro d
              induction d with
              | zero =>
                intro i hi
                have hi : i = t.length := hi
                subst hi
                rw [List.take_length]
                have L := last (cnt t) (t.length : Int) (fun _ => hsum)
                rw [ho] at L
                exact Ev.step (fun k => by rw [laws_FnWeavers.l0, if_neg (by omega)]) L
              | succ d ih =>
                intro i hi
                have G := ih (i + 1) (by omega)
                rw [show ((i + 1 : Nat) : Int) = (i : Int) + 1 by omega] at G
                have hm := getD_mem z26 t i (by omega)
                have hxi := (hx _ hm).2.2.2
                have hcl : 0 ≤ cnt (t.take i) ∧ cnt (t.take i) ≤ 8 := by
                  have q1 := List.length_filter_le (fun x : WV => decide (0 < x.f4)) (t.take i)
                  have q2 := List.length_take_le i t
                  unfold cnt
                  omega
                have hcn : cnt (t.take (i + 1)) = cnt (t.take i) + if 0 < (t.getD i z26).f4 then 1 else 0 := by
                  rw [List.take_succ_eq_append_getElem (show i < t.length by omega), getDW t i (by omega), cnt_snoc]
                rw [hcn] at G
                refine Ev.step (fun k => by rw [laws_FnWeavers.l0, if_pos (by omega)]) ?_
                by_cases c : 0 < (t.getD i z26).f4
                · rw [if_pos c] at G
                  refine Ev.step (fun k => by rw [laws_FnWeavers.j5, if_pos rfl, if_pos (by omega), if_pos (by omega), e0, if_pos c]) (Ev.bind (rHas_ev v.1 _ (by omega)) ?_)
                  rw [hu, decide_eq_true (used_mem t _ hm ⟨c, hxi.2⟩)]
                  simp only [if_true]
                  rw [wrap_id (cnt (t.take i) + 1) (by omega) (by omega), wrap_id ((i : Int) + 1) (by omega) (by omega), ← hu]
                  exact G
                · rw [if_neg c, Int.add_zero] at G
                  exact Ev.step (fun k => by rw [laws_FnWeavers.j5, if_pos rfl, if_pos (by omega), if_pos (by omega), e0, if_neg c, wrap_id ((i : Int) + 1) (by omega) (by omega)]) G
            exact go t.length 0 (by omega)
        have j3 : Ev (fun k => laws_FnWeavers.j3 k t v.1 v.2.1 v.2.2 false) true := Ev.step (fun k => by rw [laws_FnWeavers.j3, if_neg (by decide)]) lp
        refine Ev.step (fun k => by rw [laws_FnWeavers.j2, if_neg (by decide)]) (Ev.bind d1 (Ev.bind s2 (Ev.bind s1 ?_)))
        simp only [bne_self_eq_false, Bool.false_eq_true, if_false]
        refine Ev.bind (rInts_ev v.1 (by omega)) ?_
        simp only [if_true]
        refine Ev.bind (rInts_ev v.2.1 (by omega)) ?_
        simp only [Bool.not_true]
        exact j3
      have j1 : Ev (fun k => laws_FnWeavers.j1 k l0) true := by
        obtain ⟨t, a, b, ⟨h1, h2⟩, d1⟩ := drawSeat l0 hc
        obtain ⟨v, ⟨hv1, hv2⟩, s1, s2⟩ := SeatWeaver_more t (by omega) (big h2) a b
        refine Ev.step (fun k => by rw [laws_FnWeavers.j1]) (Ev.bind d1 ?_)
        simp only [s2, Option.bind_some]
        refine Ev.bind s1 ?_
        simp only [bne_self_eq_false, Bool.false_eq_true, if_false]
        refine Ev.bind (rWvs_ev v.1 (by omega)) ?_
        simp only [if_true]
        cases ho : v.2 with
        | false => simp only [Bool.false_eq_true, if_false]; exact j2
        | true =>
          simp only [if_true, AreWeavers_eq, Option.bind_some, hv2 ho, Bool.not_true]
          exact j2
      obtain ⟨t, a, b, ⟨h1, h2⟩, d1⟩ := drawDays l0 hc
      obtain ⟨v, s1, s2, hval⟩ := Days_facts t (by omega) (big h2) a b
      have j0 : Ev (fun k => laws_FnWeavers.j0 k l0 t a b v.1 v.2 false) true := by
        cases ho : v.2 with
        | false => exact Ev.step (fun k => by rw [laws_FnWeavers.j0, if_neg (by decide), if_neg (by decide)]) j1
        | true =>
          obtain ⟨n, g1, g2, g3⟩ := hval ho
          refine Ev.step (fun k => by rw [laws_FnWeavers.j0, if_neg (by decide), if_pos rfl]) (Ev.bind g1 ?_)
          simp only [if_true, if_neg g2]
          by_cases c : v.1 > 0
          · simp only [if_pos c, if_neg (g3 c)]
            exact j1
          · simp only [if_neg c]
            exact j1
      unfold laws_FnWeavers.f laws_rBig.f
      simp only [Option.bind_some, decide_eq_false hb, Bool.false_eq_true, if_false]
      refine Ev.bind d1 (Ev.bind s2 (Ev.bind s1 ?_))
      simp only [bne_self_eq_false, if_true]
      exact j0
    obtain ⟨K, hK⟩ := fin
    exact ⟨K, hK K (Nat.le_refl _)⟩
end Go.Proofs.YthalifhbjioaeaaDoor.Pure
