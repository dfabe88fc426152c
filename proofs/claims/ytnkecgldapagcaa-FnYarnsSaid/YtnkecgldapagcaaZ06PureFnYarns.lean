/- The plain law of FnYarns: what the program's functions compute is what the reference's compute. No program and no memory in it. -/
import Derived.Test.YtnkecgldapagcaaZ06Hx24
import Derived.Test.YtnkecgldapagcaaZ06Lps
namespace Go.Proofs.Ytnkecgldapagcaa.Pure
open Go.RowKit Go.Proofs.YtnkecgldapagcaaW.PrintWords Go.Proofs.YtnkecgldapagcaaW.PrintLast Go.Proofs.Ytnkecgldapagcaa.H
set_option linter.unusedVariables false
set_option linter.unusedSimpArgs false
theorem low8 (y : Int) : 0 ≤ Go.bits .and .u64 y 255 ∧ Go.bits .and .u64 y 255 ≤ 255 := by
  have h : ((BitVec.ofInt 64 y) &&& (BitVec.ofInt 64 255)).toNat ≤ 255 := by
    rw [BitVec.toNat_and]
    exact Nat.le_trans Nat.and_le_right (by decide)
  have e : Go.bits .and .u64 y 255 = IntKind.u64.wrap ((((BitVec.ofInt 64 y) &&& (BitVec.ofInt 64 255)).toNat : Nat) : Int) := rfl
  have e2 : ∀ n : Nat, n ≤ 255 → IntKind.u64.wrap (n : Int) = (n : Int) := fun n hn => by
    show (n : Int) % 18446744073709551616 = (n : Int)
    omega
  rw [e, e2 _ h]
  omega
def codeOk (code : List Int) : Prop := code.length ≤ 70000 ∧ ∀ i : Int, 0 ≤ rd code i ∧ rd code i ≤ 255
theorem codeOk_of (code : List Int) (hl : code.length ≤ 70000) (h : ∀ x ∈ code, (Lit.int .u8 x).wf = true) : codeOk code := by
  refine ⟨hl, fun i => ?_⟩
  unfold rd
  rw [List.getD_eq_getElem?_getD]
  by_cases c : i.toNat < code.length
  · rw [List.getElem?_eq_getElem c]
    have := h _ (List.getElem_mem c)
    have h3 : (decide (IntKind.u8.min ≤ code[i.toNat]) && decide (code[i.toNat] ≤ IntKind.u8.max)) = true := this
    rw [Bool.and_eq_true, decide_eq_true_iff, decide_eq_true_iff, show IntKind.u8.min = 0 by decide, show IntKind.u8.max = 255 by decide] at h3
    exact h3
  · rw [List.getElem?_eq_none (by omega)]
    exact ⟨by decide, by decide⟩
theorem next_ok (code : List Int) (hc : codeOk code) (at_ seed : Int) (h0 : 0 ≤ at_) (h1 : at_ ≤ 1000000) : ∃ x s, spec_l1Cur_next.f code at_ seed = some (x, at_ + 1, s) ∧ 0 ≤ x ∧ x ≤ 255 := by
  have hw : wrap64 (at_ + 1) = at_ + 1 := wrap_id _ (by omega) (by omega)
  have hb := hc.2 at_
  unfold spec_l1Cur_next.f
  rw [hw]
  by_cases c : at_ < (code.length : Int)
  · rw [if_pos c, if_pos h0, if_pos (by omega)]
    exact ⟨_, _, rfl, by rw [wrap_id _ (by omega) (by omega)]; exact hb⟩
  · rw [if_neg c, if_neg (by omega)]
    refine ⟨_, _, rfl, ?_⟩
    have := low8 ((IntKind.u64.wrap ((IntKind.u64.wrap ((IntKind.u64.wrap (seed * 6364136223846793005)))) + 102323)) / 1099511627776)
    rw [wrap_id _ (by omega) (by omega)]
    exact this
theorem pick_ok (code : List Int) (hc : codeOk code) (at_ seed n : Int) (h0 : 0 ≤ at_) (h1 : at_ ≤ 900000) (hn : n ≤ 1000000) : ∃ x a s, spec_l1Cur_pick.f code at_ seed n = some (x, a, s) ∧ 0 ≤ x ∧ (x < n ∨ x = 0) ∧ at_ ≤ a ∧ a ≤ at_ + 2 := by
  unfold spec_l1Cur_pick.f
  by_cases c : n ≤ 1
  · exact ⟨0, at_, seed, by rw [if_pos c], by omega, .inr rfl, by omega, by omega⟩
  · rw [if_neg c]
    obtain ⟨x, s, e, x0, x1⟩ := next_ok code hc at_ seed h0 (by omega)
    rw [e, Option.bind_some]
    dsimp only
    by_cases c2 : n > 200
    · rw [if_pos c2]
      obtain ⟨y, s2, e2, y0, y1⟩ := next_ok code hc (at_ + 1) s (by omega) (by omega)
      rw [e2, Option.bind_some, if_neg (by omega)]
      dsimp only
      rw [wrap_id (x * 256) (by omega) (by omega), wrap_id (x * 256 + y) (by omega) (by omega)]
      exact ⟨_, _, _, rfl, Int.tmod_nonneg _ (by omega), .inl (Int.tmod_lt_of_pos _ (by omega)), by omega, by omega⟩
    · rw [if_neg c2, if_neg (by omega)]
      exact ⟨_, _, _, rfl, Int.tmod_nonneg _ x0, .inl (Int.tmod_lt_of_pos _ (by omega)), by omega, by omega⟩
theorem among_ok (code : List Int) (hc : codeOk code) (at_ seed : Int) (l : List Int) (hl : 0 < l.length ∧ l.length ≤ 1000) (h0 : 0 ≤ at_) (h1 : at_ ≤ 900000) : ∃ x a s, spec_l1Cur_among.f code at_ seed l = some (x, a, s) ∧ x ∈ l ∧ at_ ≤ a ∧ a ≤ at_ + 2 := by
  unfold spec_l1Cur_among.f
  obtain ⟨x, a, s, e, x0, x1, a0, a1⟩ := pick_ok code hc at_ seed (l.length : Int) h0 h1 (by omega)
  rw [e, Option.bind_some]
  dsimp only
  have hx : x < (l.length : Int) := by omega
  rw [if_pos x0, if_pos hx]
  refine ⟨_, a, s, rfl, ?_, a0, a1⟩
  show l.getD x.toNat 0 ∈ l
  rw [List.getD_eq_getElem?_getD, List.getElem?_eq_getElem (by omega)]
  exact List.getElem_mem (by omega)
theorem one_ok (code : List Int) (hc : codeOk code) (at_ seed n : Int) (h0 : 0 ≤ at_) (h1 : at_ ≤ 900000) (hn : n ≤ 1000000) : ∃ x a s, spec_l1Cur_one.f code at_ seed n = some (x, a, s) ∧ at_ ≤ a ∧ a ≤ at_ + 2 := by
  unfold spec_l1Cur_one.f
  obtain ⟨x, a, s, e, _, _, a0, a1⟩ := pick_ok code hc at_ seed n h0 h1 hn
  rw [e, Option.bind_some]
  exact ⟨_, a, s, rfl, a0, a1⟩
theorem plain_l0 (B : Int) (hB : 0 ≤ B ∧ B ≤ 100000) (code : List Int) (hc : codeOk code) (w h cw ch : Int) (hw : 0 ≤ w ∧ w ≤ 9) (hh : 0 ≤ h ∧ h ≤ 9) (d : Nat) : ∀ (i at_ seed : Int) (xs : List Int), 0 ≤ i → i + (d : Int) = w * h → (xs.length : Int) = i → 0 ≤ at_ → at_ ≤ B + 4 * i →
    ∃ (ys : List Int) (a s : Int), (ys.length : Int) = w * h ∧ (0 ≤ a ∧ a ≤ B + 400) ∧ Ev (fun k => spec_l1Cur_plain.l0 k w h i code at_ seed cw ch xs) (cw, ch, ys, a, s) := by
  have p0 : 0 ≤ w * h := Int.mul_nonneg hw.1 hh.1
  have p1 : w * h ≤ 9 * 9 := Int.mul_le_mul hw.2 hh.2 hh.1 (by decide)
  have pw : wrap64 (w * h) = w * h := wrap_id _ (by omega) (by omega)
  induction d with
  | zero =>
    intro i at_ seed xs h0 hi hx a0 a1
    exact ⟨xs, at_, seed, by omega, ⟨a0, by omega⟩, Ev.step (f := fun _ => some (cw, ch, xs, at_, seed)) (fun k => by rw [spec_l1Cur_plain.l0, pw, if_neg (by omega)]) (Ev.now _)⟩
  | succ d ih =>
    intro i at_ seed xs h0 hi hx a0 a1
    obtain ⟨x, b, s, e, _, b0, b1⟩ := among_ok code hc at_ seed [0, 0, 0, 1, 1, 2, 5] (by decide) a0 (by omega)
    have hn : ∀ (v bb ss : Int), b ≤ bb → bb ≤ b + 2 → ∃ (ys : List Int) (a s : Int), (ys.length : Int) = w * h ∧ (0 ≤ a ∧ a ≤ B + 400) ∧ Ev (fun k => spec_l1Cur_plain.l0 k w h (i + 1) code bb ss cw ch (xs ++ [v])) (cw, ch, ys, a, s) := fun v bb ss g0 g1 =>
      ih (i + 1) bb ss (xs ++ [v]) (by omega) (by omega) (by rw [List.length_append, List.length_singleton]; omega) (by omega) (by omega)
    have wi : wrap64 (i + 1) = i + 1 := wrap_id _ (by omega) (by omega)
    have hwp : w ≠ 0 := fun e => by rw [e, Int.zero_mul] at hi; omega
    by_cases c : i ≥ w
    · obtain ⟨o, bb, ss, e2, g0, g1⟩ := one_ok code hc b s 3 (by omega) (by omega) (by omega)
      have wx : wrap64 (i - w) = i - w := wrap_id _ (by omega) (by omega)
      cases o with
      | true =>
        obtain ⟨ys, a, s', h1, h2, h3⟩ := hn (rd xs (i - w)) bb ss g0 g1
        refine ⟨ys, a, s', h1, h2, Ev.step (fun k => ?_) h3⟩
        rw [spec_l1Cur_plain.l0, pw, if_pos (by omega), e, Option.bind_some]
        dsimp only
        by_cases cz : i - w < (xs.length : Int)
        · rw [if_pos c, e2, Option.bind_some]
          dsimp only
          rw [if_pos rfl, wx, if_pos (by omega), if_pos cz, if_pos (by omega), wi]
        · exact absurd hwp (by omega)
      | false =>
        obtain ⟨ys, a, s', h1, h2, h3⟩ := hn x bb ss g0 g1
        refine ⟨ys, a, s', h1, h2, Ev.step (fun k => ?_) h3⟩
        rw [spec_l1Cur_plain.l0, pw, if_pos (by omega), e, Option.bind_some]
        dsimp only
        rw [if_pos c, e2, Option.bind_some]
        dsimp only
        rw [if_neg (by decide), if_pos (by omega), wi]
    · obtain ⟨ys, a, s', h1, h2, h3⟩ := hn x b s (by omega) (by omega)
      refine ⟨ys, a, s', h1, h2, Ev.step (fun k => ?_) h3⟩
      rw [spec_l1Cur_plain.l0, pw, if_pos (by omega), e, Option.bind_some]
      dsimp only
      rw [if_neg c, if_pos (by omega), wi]
theorem plain_ok (code : List Int) (hc : codeOk code) (w h at_ seed : Int) (hw : 0 ≤ w ∧ w ≤ 9) (hh : 0 ≤ h ∧ h ≤ 9) (a0 : 0 ≤ at_) (a1 : at_ ≤ 100000) : ∃ (ys : List Int) (a s : Int), (ys.length : Int) = w * h ∧ ys.length ≤ 81 ∧ (0 ≤ a ∧ a ≤ at_ + 400) ∧ Ev (fun k => spec_l1Cur_plain.f k code at_ seed w h) (w, h, ys, a, s) := by
  have p0 : 0 ≤ w * h := Int.mul_nonneg hw.1 hh.1
  have p1 : w * h ≤ 9 * 9 := Int.mul_le_mul hw.2 hh.2 hh.1 (by decide)
  obtain ⟨ys, a, s, h1, h2, h3⟩ := plain_l0 at_ ⟨a0, a1⟩ code hc w h w h hw hh (w * h).toNat 0 at_ seed [] (by omega) (by omega) (by simp) a0 (by omega)
  exact ⟨ys, a, s, h1, by omega, h2, h3⟩
theorem chart_ok (code : List Int) (hc : codeOk code) (at_ seed : Int) (a0 : 0 ≤ at_) (a1 : at_ ≤ 50000) : ∃ (w h : Int) (ys : List Int) (a s : Int), ys.length ≤ 82 ∧ (0 ≤ a ∧ a ≤ at_ + 3000) ∧ Ev (fun k => spec_l1Cur_chart.f k code at_ seed) (w, h, ys, a, s) := by
  obtain ⟨w, b1, s1, e1, m1, u1, v1⟩ := among_ok code hc at_ seed [1, 2, 3, 3, 4, 4, 5, 6, 8] (by decide) a0 (by omega)
  obtain ⟨h, b2, s2, e2, m2, u2, v2⟩ := among_ok code hc b1 s1 [1, 2, 3, 3, 4, 5, 8] (by decide) (by omega) (by omega)
  have hw : 1 ≤ w ∧ w ≤ 8 := by simp only [List.mem_cons, List.not_mem_nil, or_false] at m1; omega
  have hh : 1 ≤ h ∧ h ≤ 8 := by simp only [List.mem_cons, List.not_mem_nil, or_false] at m2; omega
  obtain ⟨ys, b3, s3, hy, hy2, ha, he⟩ := plain_ok code hc w h b2 s2 ⟨by omega, by omega⟩ ⟨by omega, by omega⟩ (by omega) (by omega)
  have hpos : 0 < w * h := Int.mul_pos (by omega) (by omega)
  obtain ⟨x, b4, s4, e4, x0, x1, u4, v4⟩ := pick_ok code hc b3 s3 40 (by omega) (by omega) (by omega)
  unfold spec_l1Cur_chart.f
  simp only [e1, e2, Option.bind_some]
  by_cases c0 : x = 0
  · obtain ⟨y, b5, s5, e5, y0, y1, u5, v5⟩ := pick_ok code hc b4 s4 (ys.length : Int) (by omega) (by omega) (by omega)
    obtain ⟨z, b6, s6, e6, _, u6, v6⟩ := among_ok code hc b5 s5 [(-1), 6] (by decide) (by omega) (by omega)
    refine ⟨w, h, ys.set y.toNat z, b6, s6, by rw [List.length_set]; omega, ⟨by omega, by omega⟩, Ev.bind he ?_⟩
    have hy3 : y < (ys.length : Int) := by omega
    simp only [e4, Option.bind_some, if_pos c0, e5, e6, if_pos y0, if_pos hy3]
    exact Ev.now _
  · by_cases c1 : x = 1
    · refine ⟨w, h, ys ++ [0], b4, s4, by rw [List.length_append, List.length_singleton]; omega, ⟨by omega, by omega⟩, Ev.bind he ?_⟩
      simp only [e4, Option.bind_some, if_neg c0, if_pos c1, if_pos (show ys.length < 17592186044416 by omega)]
      exact Ev.now _
    · by_cases c2 : x = 2
      · obtain ⟨v, b5, s5, e5, m5, u5, v5⟩ := among_ok code hc b4 s4 [0, 9] (by decide) (by omega) (by omega)
        have hv : 0 ≤ v ∧ v ≤ 9 := by simp only [List.mem_cons, List.not_mem_nil, or_false] at m5; omega
        obtain ⟨zs, b6, s6, hz, hz2, hb, hf⟩ := plain_ok code hc v 1 b5 s5 hv ⟨by omega, by omega⟩ (by omega) (by omega)
        refine ⟨v, 1, zs, b6, s6, by omega, ⟨by omega, by omega⟩, Ev.bind he ?_⟩
        simp only [e4, Option.bind_some, if_neg c0, if_neg c1, if_pos c2, e5]
        exact Ev.bind hf (Ev.now _)
      · refine ⟨w, h, ys, b4, s4, by omega, ⟨by omega, by omega⟩, Ev.bind he ?_⟩
        simp only [e4, Option.bind_some, if_neg c0, if_neg c1, if_neg c2]
        exact Ev.now _
theorem yarn_ok (code : List Int) (hc : codeOk code) (at_ seed : Int) (h0 : 0 ≤ at_) (h1 : at_ ≤ 800000) : ∃ p g w b a s, spec_l1Cur_yarn.f code at_ seed = some (p, g, w, b, a, s) ∧ at_ ≤ a ∧ a ≤ at_ + 12 := by
  unfold spec_l1Cur_yarn.f
  obtain ⟨x1, a1, s1, e1, _, q1, r1⟩ := among_ok code hc at_ seed [1, 5, 8, 12, 30] (by decide) h0 (by omega)
  obtain ⟨x2, a2, s2, e2, _, q2, r2⟩ := among_ok code hc a1 s1 [1, 6, 10, 40] (by decide) (by omega) (by omega)
  obtain ⟨x3, a3, s3, e3, _, q3, r3⟩ := among_ok code hc a2 s2 [0, 5, 7, 33, 100] (by decide) (by omega) (by omega)
  obtain ⟨x4, a4, s4, e4, _, q4, r4⟩ := among_ok code hc a3 s3 [1, 10, 50, 1000] (by decide) (by omega) (by omega)
  obtain ⟨x5, a5, s5, e5, _, _, q5, r5⟩ := pick_ok code hc a4 s4 32 (by omega) (by omega) (by omega)
  obtain ⟨y1, b1, t1, f1, _, u1, v1⟩ := among_ok code hc a5 s5 [0, 31] (by decide) (by omega) (by omega)
  obtain ⟨y2, b2, t2, f2, _, u2, v2⟩ := among_ok code hc a5 s5 [0, 41] (by decide) (by omega) (by omega)
  obtain ⟨y3, b3, t3, f3, _, u3, v3⟩ := among_ok code hc a5 s5 [(-1), 101] (by decide) (by omega) (by omega)
  obtain ⟨y4, b4, t4, f4, _, u4, v4⟩ := among_ok code hc a5 s5 [0, 1001] (by decide) (by omega) (by omega)
  simp only [e1, e2, e3, e4, e5, Option.bind_some]
  by_cases c0 : x5 = 0
  · simp only [if_pos c0, f1, Option.bind_some]
    exact ⟨_, _, _, _, b1, t1, rfl, by omega, by omega⟩
  · by_cases c1 : x5 = 1
    · simp only [if_neg c0, if_pos c1, f2, Option.bind_some]
      exact ⟨_, _, _, _, b2, t2, rfl, by omega, by omega⟩
    · by_cases c2 : x5 = 2
      · simp only [if_neg c0, if_neg c1, if_pos c2, f3, Option.bind_some]
        exact ⟨_, _, _, _, b3, t3, rfl, by omega, by omega⟩
      · by_cases c3 : x5 = 3
        · simp only [if_neg c0, if_neg c1, if_neg c2, if_pos c3, f4, Option.bind_some]
          exact ⟨_, _, _, _, b4, t4, rfl, by omega, by omega⟩
        · simp only [if_neg c0, if_neg c1, if_neg c2, if_neg c3]
          exact ⟨_, _, _, _, a5, s5, rfl, by omega, by omega⟩
theorem drawY (code : List Int) (hc : codeOk code) : ∃ p g w b n, spec_DrawYarnFor.f code = some (p, g, w, b, n) := by
  obtain ⟨p, g, w, b, a, s, e, u, v⟩ := yarn_ok code hc 0 0 (by omega) (by omega)
  obtain ⟨x, a2, s2, e2, _⟩ := among_ok code hc a s [0, 1, 7, 64, 1000, 100000, 100001, (-1)] (by decide) (by omega) (by omega)
  refine ⟨p, g, w, b, x, ?_⟩
  unfold spec_DrawYarnFor.f
  rw [e, Option.bind_some]
  dsimp only
  rw [e2]
  rfl
theorem drawK (code : List Int) (hc : codeOk code) : ∃ p g w b n, spec_DrawKnotsFrom.f code = some (p, g, w, b, n) := by
  obtain ⟨p, g, w, b, a, s, e, u, v⟩ := yarn_ok code hc 0 0 (by omega) (by omega)
  obtain ⟨x, a2, s2, e2, _⟩ := among_ok code hc a s [0, 1, 50, 999, 20000, 100000, 100001, (-1)] (by decide) (by omega) (by omega)
  refine ⟨p, g, w, b, x, ?_⟩
  unfold spec_DrawKnotsFrom.f
  rw [e, Option.bind_some]
  dsimp only
  rw [e2]
  rfl
theorem drawB (code : List Int) (hc : codeOk code) : ∃ (w h : Int) (l : List Int) (p g y b : Int), l.length ≤ 82 ∧ Ev (fun k => spec_DrawBallsByColor.f k code) (w, h, l, p, g, y, b) := by
  obtain ⟨w, h, ys, a, s, hl, ha, hv⟩ := chart_ok code hc 0 0 (by omega) (by omega)
  obtain ⟨p, g, y, b, a2, s2, e, u, v⟩ := yarn_ok code hc a s (by omega) (by omega)
  have h1 : Ev (fun k => spec_DrawYarnByColor.f k code) (w, h, ys, p, g, y, b) := by
    unfold spec_DrawYarnByColor.f
    refine Ev.bind hv ?_
    simp only [e, Option.bind_some]
    exact Ev.now _
  refine ⟨w, h, ys, p, g, y, b, hl, ?_⟩
  unfold spec_DrawBallsByColor.f
  exact Ev.bind h1 (Ev.now _)
theorem l1In_eq (a b c : Int) : spec_l1In.f a b c = some (rng a b c) := spec_l1In.eq a b c
theorem in_eq (a b c : Int) : impl_in.f a b c = some (rng a b c) := impl_in.eq a b c
theorem take_succ_getD {α : Type} (z : α) (a : List α) (i : Nat) (h : i < a.length) : a.take (i + 1) = a.take i ++ [a.getD i z] := by
  rw [List.take_succ_eq_append_getElem h, List.getD_eq_getElem?_getD, List.getElem?_eq_getElem h]
  rfl
theorem set_mid {α : Type} (f : α → α) (z : α) (a : List α) (i : Nat) (h : i < a.length) : ((a.take i).map f ++ a.drop i).set i (f (a.getD i z)) = (a.take (i + 1)).map f ++ a.drop (i + 1) := by
  have e : a.drop i = a.getD i z :: a.drop (i + 1) := by
    rw [List.drop_eq_getElem_cons h, List.getD_eq_getElem?_getD, List.getElem?_eq_getElem h]
    rfl
  rw [e, take_succ_getD z a i h, List.map_append, List.append_assoc]
  have hl : ((a.take i).map f).length = i := by rw [List.length_map, List.length_take]; omega
  rw [List.set_append_right _ _ (by omega), hl, Nat.sub_self]
  rfl
theorem mid_getD {α : Type} (f : α → α) (z : α) (a : List α) (i : Nat) (h : i < a.length) : ((a.take i).map f ++ a.drop i).getD i z = a.getD i z := by
  have hl : ((a.take i).map f).length = i := by rw [List.length_map, List.length_take]; omega
  rw [List.getD_eq_getElem?_getD, List.getElem?_append_right (by omega), hl, Nat.sub_self, List.getElem?_drop, Nat.add_zero, List.getD_eq_getElem?_getD]
theorem mid_length {α : Type} (f : α → α) (a : List α) (i : Nat) : ((a.take i).map f ++ a.drop i).length = a.length := by
  rw [List.length_append, List.length_map, List.length_take, List.length_drop]; omega
def okChart (w h : Int) (l : List Int) : Bool := (l.all fun x => rng x 0 5) && (rng w 1 8 && (rng h 1 8 && ((l.length : Int) == wrap64 (w * h))))
theorem okChart_iff (w h : Int) (l : List Int) (hk : okChart w h l = true) : (∀ i, i < l.length → 0 ≤ l.getD i 0 ∧ l.getD i 0 ≤ 5) ∧ (1 ≤ w ∧ w ≤ 8) ∧ (1 ≤ h ∧ h ≤ 8) ∧ (l.length : Int) = w * h ∧ l.length ≤ 64 := by
  unfold okChart at hk
  simp only [Bool.and_eq_true, rng_iff, beq_iff_eq] at hk
  obtain ⟨h1, h2, h3, h4⟩ := hk
  have p0 : 0 ≤ w * h := Int.mul_nonneg (by omega) (by omega)
  have p1 : w * h ≤ 8 * 8 := Int.mul_le_mul h2.2 h3.2 (by omega) (by omega)
  rw [wrap_id _ (by omega) (by omega)] at h4
  refine ⟨fun i hi => ?_, h2, h3, h4, by omega⟩
  have := (all_getD 0 l _).1 h1 i hi
  exact (rng_iff _ _ _).1 this
theorem l2Good_ev (w h : Int) (l : List Int) (hl : l.length ≤ 2000000) : Ev (fun k => spec_l2Good.f k w h l) (okChart w h l) := by
  unfold spec_l2Good.f
  have e : okChart w h l = ((List.range l.length).all (fun i => rng (l.getD i 0) 0 5) && (rng w 1 8 && (rng h 1 8 && ((l.length : Int) == wrap64 (w * h))))) := by
    unfold okChart
    congr 1
    rw [Bool.eq_iff_iff, all_getD 0, all_range]
  rw [e]
  refine Ev.scan (fun k i => spec_l2Good.l0 k i w h l) l.length _ _ (Ev.step (f := fun _ => some _) (fun k => ?_) (Ev.now _)) ?_ ?_
  · rw [spec_l2Good.l0, if_neg (by omega)]
    unfold spec_l2Side.f
    simp only [l1In_eq, Option.bind_some]
    cases rng w 1 8 <;> cases rng h 1 8 <;> rfl
  · intro i hi hg
    refine Ev.step (f := fun _ => some false) (fun k => ?_) (Ev.now _)
    rw [spec_l2Good.l0, if_pos (by omega), if_pos (by omega)]
    unfold spec_l2Color.f
    have e0 : rd l (i : Int) = l.getD i 0 := rfl
    rw [l1In_eq, e0, hg]
    rfl
  · intro i r hi hg hr
    refine Ev.step (fun k => ?_) hr
    rw [spec_l2Good.l0, if_pos (by omega), if_pos (by omega)]
    unfold spec_l2Color.f
    have e0 : rd l (i : Int) = l.getD i 0 := rfl
    rw [l1In_eq, e0, hg, wrap_id _ (by omega) (by omega)]
    rfl
theorem IsChart_eq (w h : Int) (l : List Int) : impl_IsChart.f w h l = some (okChart w h l) := by
  unfold impl_IsChart.f impl_isSide.f areAll_impl_isColor.f okChart
  simp only [in_eq, Option.bind_some]
  by_cases e : (l.length : Int) = wrap64 (w * h)
  · rw [if_pos e, beq_iff_eq.2 e]
    cases rng w 1 8 <;> cases rng h 1 8 <;> simp
  · rw [if_neg e, beq_eq_false_iff_ne.2 e]
    cases rng w 1 8 <;> cases rng h 1 8 <;> simp
def cntN (l : List Int) : Nat → List Int
  | 0 => List.replicate 6 0
  | i + 1 => (cntN l i).set (l.getD i 0).toNat ((cntN l i).getD (l.getD i 0).toNat 0 + 1)
theorem cntN_length (l : List Int) (i : Nat) : (cntN l i).length = 6 := by
  induction i with
  | zero => simp [cntN]
  | succ i ih => simp [cntN, ih]
theorem cntN_bd (l : List Int) (i j : Nat) : 0 ≤ (cntN l i).getD j 0 ∧ (cntN l i).getD j 0 ≤ (i : Int) := by
  induction i generalizing j with
  | zero =>
    rw [cntN, List.getD_eq_getElem?_getD, List.getElem?_replicate]
    split <;> simp
  | succ i ih =>
    have h1 := ih j
    have h2 := ih (l.getD i 0).toNat
    rw [cntN, getD_set]
    split <;> omega
theorem cnt_spec (w h : Int) (l : List Int) (hk : okChart w h l = true) : Ev (fun k => spec_CountColors.l0 k (List.replicate 6 0) 0 w h l) (cntN l l.length, true) := by
  obtain ⟨hc, hw, hh, hlen, h64⟩ := okChart_iff w h l hk
  obtain ⟨r, hr, h1⟩ := Ev.loopE (fun k i (s : List Int) => spec_CountColors.l0 k s i w h l) l.length (fun i s => s = cntN l i) (fun r => r = (cntN l l.length, true))
    (fun s hs => ⟨(s, true), by rw [hs], Ev.step (fun k => by rw [spec_CountColors.l0, if_neg (by omega)]) (Ev.now _)⟩)
    (fun i s hi hs => by
      refine ⟨_, rfl, fun r h => Ev.step (fun k => ?_) h⟩
      have hcb := hc i hi
      have hsl : s.length = 6 := by rw [hs]; exact cntN_length l i
      have hb := cntN_bd l i (l.getD i 0).toNat
      have e0 : rd l (i : Int) = l.getD i 0 := rfl
      have e1 : rd s (l.getD i 0) = s.getD (l.getD i 0).toNat 0 := rfl
      rw [← hs] at hb
      rw [spec_CountColors.l0, if_pos (by omega), if_pos (by omega), e0, if_pos (by omega), if_pos (by omega), e1, wrap_id _ (by omega) (by omega), wrap_id _ (by omega) (by omega), cntN, ← hs]) (List.replicate 6 0) rfl
  subst hr
  exact h1
theorem cnt_impl (w h : Int) (l : List Int) (hk : okChart w h l = true) : Ev (fun k => impl_Chart_colors.l0 k (List.replicate 6 0) l (l.length : Int) 0) (cntN l l.length) := by
  obtain ⟨hc, hw, hh, hlen, h64⟩ := okChart_iff w h l hk
  obtain ⟨r, hr, h1⟩ := Ev.loopE (fun k i (s : List Int) => impl_Chart_colors.l0 k s l (l.length : Int) i) l.length (fun i s => s = cntN l i) (fun r => r = cntN l l.length)
    (fun s hs => ⟨s, hs, Ev.step (fun k => by rw [impl_Chart_colors.l0, if_neg (by omega)]) (Ev.now _)⟩)
    (fun i s hi hs => by
      refine ⟨_, rfl, fun r h => Ev.step (fun k => ?_) h⟩
      have hcb := hc i hi
      have hsl : s.length = 6 := by rw [hs]; exact cntN_length l i
      have hb := cntN_bd l i (l.getD i 0).toNat
      have e0 : rd l (i : Int) = l.getD i 0 := rfl
      have e1 : rd s (l.getD i 0) = s.getD (l.getD i 0).toNat 0 := rfl
      rw [← hs] at hb
      rw [impl_Chart_colors.l0, if_pos (by omega), if_pos (by omega), if_pos (by omega), e0, if_pos (by omega), if_pos (by omega), e1, wrap_id _ (by omega) (by omega), wrap_id _ (by omega) (by omega), cntN, ← hs]) (List.replicate 6 0) rfl
  subst hr
  exact h1
theorem counts_same (w h : Int) (l : List Int) (hk : okChart w h l = true) : ∃ cs : List Int, cs.length = 6 ∧ (∀ j, 0 ≤ cs.getD j 0 ∧ cs.getD j 0 ≤ 64) ∧ Ev (fun k => spec_l10Counts.f k w h l) cs ∧ Ev (fun k => impl_Chart_colors.f k w h l) cs := by
  obtain ⟨hc, hw, hh, hlen, h64⟩ := okChart_iff w h l hk
  refine ⟨cntN l l.length, cntN_length _ _, fun j => by have := cntN_bd l l.length j; omega, ?_, ?_⟩
  · have h2 : Ev (fun k => spec_CountColors.f k w h l) (cntN l l.length, true) := by
      unfold spec_CountColors.f
      refine Ev.bind (l2Good_ev w h l (by omega)) ?_
      simp only [hk, if_true, if_pos (show 6 ≤ 35184372088832 by omega)]
      exact cnt_spec w h l hk
    unfold spec_l10Counts.f
    exact Ev.bind h2 (Ev.now _)
  · unfold impl_Chart_colors.f
    simp only [if_pos (show 6 ≤ 35184372088832 by omega)]
    exact cnt_impl w h l hk
def okYarn (p g w b : Int) : Bool := rng p 1 30 && (rng g 1 40 && (rng w 0 100 && rng b 1 1000))
theorem okYarn_iff (p g w b : Int) : okYarn p g w b = true ↔ (1 ≤ p ∧ p ≤ 30) ∧ (1 ≤ g ∧ g ≤ 40) ∧ (0 ≤ w ∧ w ≤ 100) ∧ 1 ≤ b ∧ b ≤ 1000 := by
  simp only [okYarn, Bool.and_eq_true, rng_iff]
theorem l10Good_eq (p g w b : Int) : spec_l10Good.f p g w b = some (okYarn p g w b) := by
  unfold spec_l10Good.f okYarn
  simp only [l1In_eq, Option.bind_some]
  cases rng p 1 30 <;> cases rng g 1 40 <;> cases rng w 0 100 <;> cases rng b 1 1000 <;> rfl
theorem IsYarn_eq (p g w b : Int) : impl_IsYarn.f p g w b = some (okYarn p g w b) := by
  unfold impl_IsYarn.f okYarn
  simp only [in_eq, Option.bind_some]
  cases rng p 1 30 <;> cases rng g 1 40 <;> cases rng w 0 100 <;> cases rng b 1 1000 <;> rfl
def yarnV (p g w n : Int) : Int := wrap64 (Int.tdiv (wrap64 ((wrap64 ((wrap64 (n * (wrap64 ((wrap64 (2 * p)) + g)))) * (wrap64 (100 + w)))) + 99)) 100)
theorem l10For_eq (p g w b n : Int) : spec_l10For.f p g w b n = some (yarnV p g w n) := rfl
theorem yarnV_eq (p g w b n : Int) (h : okYarn p g w b = true) (h0 : 0 ≤ n) (h1 : n ≤ 100000) : yarnV p g w n = (n * ((2 * p + g) * (100 + w)) + 99) / 100 := by
  obtain ⟨hp, hg, hw, hb⟩ := (okYarn_iff p g w b).1 h
  unfold yarnV
  have a1 : wrap64 (2 * p) = 2 * p := wrap_id _ (by omega) (by omega)
  have a2 : wrap64 (2 * p + g) = 2 * p + g := wrap_id _ (by omega) (by omega)
  have a3 : wrap64 (100 + w) = 100 + w := wrap_id _ (by omega) (by omega)
  obtain ⟨s, hs⟩ : ∃ s, s = 2 * p + g := ⟨_, rfl⟩
  obtain ⟨u, hu⟩ : ∃ u, u = 100 + w := ⟨_, rfl⟩
  rw [a1, a2, a3, ← hs, ← hu]
  have s0 : 0 ≤ s := by omega
  have s1 : s ≤ 100 := by omega
  have u0 : 0 ≤ u := by omega
  have u1 : u ≤ 200 := by omega
  have b0 : 0 ≤ s * u := Int.mul_nonneg s0 u0
  have b1 : s * u ≤ 100 * 200 := Int.mul_le_mul s1 u1 u0 (by omega)
  have c0 : 0 ≤ n * s := Int.mul_nonneg h0 s0
  have c1 : n * s ≤ 100000 * 100 := Int.mul_le_mul h1 s1 s0 (by omega)
  have d0 : 0 ≤ n * (s * u) := Int.mul_nonneg h0 b0
  have d1 : n * (s * u) ≤ 100000 * (100 * 200) := Int.mul_le_mul h1 b1 b0 (by omega)
  rw [wrap_id (n * s) (by omega) (by omega), Int.mul_assoc]
  rw [wrap_id (n * (s * u)) (by omega) (by omega), wrap_id (n * (s * u) + 99) (by omega) (by omega), Int.tdiv_eq_ediv_of_nonneg (by omega)]
  exact wrap_id _ (by omega) (by omega)
theorem yarn_eqV (p g w b n : Int) (h : okYarn p g w b = true) (h0 : 0 ≤ n) (h1 : n ≤ 100000) : impl_Yarn_yarn.f p g w b n = some (yarnV p g w n) := by
  obtain ⟨hp, hg, hw, hb⟩ := (okYarn_iff p g w b).1 h
  rw [yarnV_eq p g w b n h h0 h1]
  unfold impl_Yarn_yarn.f impl_Yarn_hundredths.f impl_ceilDiv.f
  have a1 : wrap64 (2 * p) = 2 * p := wrap_id _ (by omega) (by omega)
  have a2 : wrap64 (2 * p + g) = 2 * p + g := wrap_id _ (by omega) (by omega)
  have a3 : wrap64 (100 + w) = 100 + w := wrap_id _ (by omega) (by omega)
  obtain ⟨s, hs⟩ : ∃ s, s = 2 * p + g := ⟨_, rfl⟩
  obtain ⟨u, hu⟩ : ∃ u, u = 100 + w := ⟨_, rfl⟩
  rw [a1, a2, a3, ← hs, ← hu]
  have s0 : 0 ≤ s := by omega
  have s1 : s ≤ 100 := by omega
  have u0 : 0 ≤ u := by omega
  have u1 : u ≤ 200 := by omega
  have b0 : 0 ≤ s * u := Int.mul_nonneg s0 u0
  have b1 : s * u ≤ 100 * 200 := Int.mul_le_mul s1 u1 u0 (by omega)
  have d0 : 0 ≤ n * (s * u) := Int.mul_nonneg h0 b0
  have d1 : n * (s * u) ≤ 100000 * (100 * 200) := Int.mul_le_mul h1 b1 b0 (by omega)
  simp only [Option.bind_some]
  rw [if_neg (by omega), Option.bind_some, wrap_id (s * u) (by omega) (by omega), wrap_id (n * (s * u)) (by omega) (by omega), wrap_id (n * (s * u) + 100) (by omega) (by omega), wrap_id (n * (s * u) + 100 - 1) (by omega) (by omega), Int.tdiv_eq_ediv_of_nonneg (by omega), wrap_id _ (by omega) (by omega)]
  congr 2
  omega
theorem yarns_ev (p g w b cw ch : Int) (cl : List Int) (n : Int) (h : okYarn p g w b = true) (hk : okChart cw ch cl = true) (hn0 : 0 ≤ n) (hn1 : n ≤ 1000) (cs : List Int) (h6 : cs.length = 6) (hb : ∀ j, 0 ≤ cs.getD j 0 ∧ cs.getD j 0 ≤ 64)
    (hv : Ev (fun k => impl_Chart_colors.f k cw ch cl) cs) : Ev (fun k => impl_Yarn_yarns.f k p g w b cw ch cl n) (cs.map fun c => yarnV p g w (c * n)) := by
  unfold impl_Yarn_yarns.f
  refine Ev.bind hv ?_
  obtain ⟨r, hr, h1⟩ := Ev.loopE (fun k i (s : List Int) => impl_Yarn_yarns.l0 k n s (cs.length : Int) i p g w b) cs.length (fun i s => s = (cs.take i).map (fun c => yarnV p g w (c * n)) ++ cs.drop i) (fun r => r = cs.map fun c => yarnV p g w (c * n))
    (fun s hs => ⟨s, by rw [hs]; simp, Ev.step (fun k => by rw [impl_Yarn_yarns.l0, if_neg (by omega)]) (Ev.now s)⟩)
    (fun i s hi hs => by
      have hl : s.length = cs.length := by rw [hs]; exact mid_length _ _ _
      have e0 : rd s (i : Int) = cs.getD i 0 := by rw [hs]; exact mid_getD (fun c => yarnV p g w (c * n)) 0 cs i hi
      have hbi := hb i
      obtain ⟨c, hc⟩ : ∃ c, c = cs.getD i 0 := ⟨_, rfl⟩
      rw [← hc] at hbi e0
      have p0 : 0 ≤ c * n := Int.mul_nonneg hbi.1 hn0
      have p1 : c * n ≤ 64 * 1000 := Int.mul_le_mul hbi.2 hn1 hn0 (by omega)
      refine ⟨s.set i (yarnV p g w (c * n)), by rw [hs, hc]; exact set_mid (fun c => yarnV p g w (c * n)) 0 cs i hi, fun r h2 => Ev.step (fun k => ?_) h2⟩
      rw [impl_Yarn_yarns.l0, if_pos (by omega), if_pos (by omega), if_pos (by omega), e0, wrap_id (c * n) (by omega) (by omega), yarn_eqV p g w b _ h p0 (by omega), Option.bind_some, Int.toNat_natCast, wrap_id _ (by omega) (by omega)]) cs (by simp)
  subst hr
  exact h1
theorem specY_ev (cw ch : Int) (cl : List Int) (p g w b : Int) (hk : okChart cw ch cl = true) (h : okYarn p g w b = true) (cs : List Int) (h6 : cs.length = 6) (hv : Ev (fun k => spec_l10Counts.f k cw ch cl) cs) :
    Ev (fun k => spec_YarnByColor.f k cw ch cl p g w b) (cs.map (yarnV p g w), true) := by
  obtain ⟨hc, _, _, _, h64⟩ := okChart_iff cw ch cl hk
  unfold spec_YarnByColor.f
  simp only [Option.bind_some, l10Good_eq]
  refine Ev.bind (l2Good_ev cw ch cl (by omega)) ?_
  simp only [hk, if_true, h]
  refine Ev.step (f := fun k => (spec_l10Counts.f k cw ch cl).bind fun t139 => spec_YarnByColor.l0 k [] t139 0 p g w b) (fun k => by rw [spec_YarnByColor.j0, if_neg (by decide)]) ?_
  refine Ev.bind hv ?_
  obtain ⟨r, hr, h1⟩ := Ev.loopE (fun k i (s : List Int) => spec_YarnByColor.l0 k s cs i p g w b) cs.length (fun i s => s = (cs.take i).map (yarnV p g w)) (fun r => r = (cs.map (yarnV p g w), true))
    (fun s hs => ⟨(s, true), by rw [hs, List.take_length], Ev.step (fun k => by rw [spec_YarnByColor.l0, if_neg (by omega)]) (Ev.now _)⟩)
    (fun i s hi hs => by
      have hl : s.length ≤ i := by rw [hs, List.length_map, List.length_take]; omega
      have e0 : rd cs (i : Int) = cs.getD i 0 := rfl
      refine ⟨s ++ [yarnV p g w (cs.getD i 0)], by rw [hs, take_succ_getD 0 cs i hi, List.map_append]; rfl, fun r h2 => Ev.step (fun k => ?_) h2⟩
      rw [spec_YarnByColor.l0, if_pos (by omega), if_pos (by omega), e0, l10For_eq, Option.bind_some, if_pos (by omega), wrap_id _ (by omega) (by omega)]) [] (by simp)
  subst hr
  exact h1
theorem specY_no (cw ch : Int) (cl : List Int) (p g w b : Int) (hl : cl.length ≤ 2000000) (h : (okChart cw ch cl && okYarn p g w b) = false) : Ev (fun k => spec_YarnByColor.f k cw ch cl p g w b) ([], false) := by
  unfold spec_YarnByColor.f
  simp only [Option.bind_some, l10Good_eq]
  refine Ev.bind (l2Good_ev cw ch cl hl) ?_
  have hj : Ev (fun k => spec_YarnByColor.j0 k [] true cw ch cl p g w b) ([], false) := Ev.step (fun k => by rw [spec_YarnByColor.j0, if_pos rfl]) (Ev.now _)
  cases h1 : okChart cw ch cl with
  | true =>
    rw [h1, Bool.true_and] at h
    simp only [if_true, h, Bool.not_false]
    exact hj
  | false => simp only [Bool.false_eq_true, if_false]; exact hj
theorem implY_ev (cw ch : Int) (cl : List Int) (p g w b : Int) (hk : okChart cw ch cl = true) (h : okYarn p g w b = true) (cs : List Int) (h6 : cs.length = 6) (hb : ∀ j, 0 ≤ cs.getD j 0 ∧ cs.getD j 0 ≤ 64) (hv : Ev (fun k => impl_Chart_colors.f k cw ch cl) cs) :
    Ev (fun k => impl_YarnByColor.f k cw ch cl p g w b) (cs.map (yarnV p g w), true) := by
  unfold impl_YarnByColor.f
  simp only [IsChart_eq, IsYarn_eq, Option.bind_some, hk, h, if_true]
  have := yarns_ev p g w b cw ch cl 1 h hk (by omega) (by omega) cs h6 hb hv
  simp only [Int.mul_one] at this
  exact Ev.bind this (Ev.now _)
theorem implY_no (cw ch : Int) (cl : List Int) (p g w b : Int) (h : (okChart cw ch cl && okYarn p g w b) = false) (k : Nat) : impl_YarnByColor.f k cw ch cl p g w b = some ([], false) := by
  unfold impl_YarnByColor.f
  simp only [IsChart_eq, IsYarn_eq, Option.bind_some]
  cases h1 : okChart cw ch cl with
  | true => rw [h1, Bool.true_and] at h; simp [h]
  | false => simp
def ballV (b y : Int) : Int := wrap64 (Int.tdiv (wrap64 ((wrap64 (y + (wrap64 (1000 * b)))) - 1)) (wrap64 (1000 * b)))
theorem Balls_same (cw ch : Int) (cl : List Int) (p g w b : Int) (hl : cl.length ≤ 2000000) : ∃ r : List Int × Bool, r.1.length ≤ 6 ∧ Ev (fun k => spec_BallsByColor.f k cw ch cl p g w b) r ∧ Ev (fun k => impl_BallsByColor.f k cw ch cl p g w b) r ∧ ∃ ys : List Int, r.1 = ys.map (ballV b) ∧ ys.length ≤ 6 ∧ Ev (fun k => spec_YarnByColor.f k cw ch cl p g w b) (ys, r.2) ∧ Ev (fun k => impl_YarnByColor.f k cw ch cl p g w b) (ys, r.2) ∧ (∀ j, j < ys.length → (0 ≤ ys.getD j 0 ∧ ys.getD j 0 ≤ 1000000) ∧ 1 ≤ b ∧ b ≤ 1000) := by
  unfold spec_BallsByColor.f impl_BallsByColor.f
  simp only [Option.bind_some]
  cases hh : (okChart cw ch cl && okYarn p g w b) with
  | false =>
    refine ⟨([], false), Nat.zero_le _, Ev.bind (specY_no cw ch cl p g w b hl hh) ?_, Ev.bind ⟨0, fun k _ => implY_no cw ch cl p g w b hh k⟩ ?_, [], rfl, Nat.zero_le _, specY_no cw ch cl p g w b hl hh, ⟨0, fun k _ => implY_no cw ch cl p g w b hh k⟩, fun j hj => absurd hj (by simp)⟩
    · simp only [Bool.false_eq_true, if_false]; exact Ev.now _
    · exact Ev.step (f := fun _ => some ([], false)) (fun k => by rw [impl_BallsByColor.l0, if_neg (by simp)]) (Ev.now _)
  | true =>
    have h1 := hh
    rw [Bool.and_eq_true] at h1
    obtain ⟨cs, h6, hb, hs, hi⟩ := counts_same cw ch cl h1.1
    obtain ⟨hp, hg, hw, hbb⟩ := (okYarn_iff p g w b).1 h1.2
    have hz : ¬ wrap64 (1000 * b) = 0 := by rw [wrap_id _ (by omega) (by omega)]; omega
    obtain ⟨ys, hys⟩ : ∃ ys, ys = cs.map (yarnV p g w) := ⟨_, rfl⟩
    have y6 : ys.length = 6 := by rw [hys, List.length_map, h6]
    have a1 := specY_ev cw ch cl p g w b h1.1 h1.2 cs h6 hs
    have a2 := implY_ev cw ch cl p g w b h1.1 h1.2 cs h6 hb hi
    rw [← hys] at a1 a2
    have hbd : ∀ j, j < ys.length → (0 ≤ ys.getD j 0 ∧ ys.getD j 0 ≤ 1000000) ∧ 1 ≤ b ∧ b ≤ 1000 := fun j hj => by
      refine ⟨?_, hbb⟩
      have e : ys.getD j 0 = yarnV p g w (cs.getD j 0) := by
        rw [hys, List.getD_eq_getElem?_getD, List.getElem?_map, List.getElem?_eq_getElem (by omega), List.getD_eq_getElem?_getD, List.getElem?_eq_getElem (by omega)]
        rfl
      have hc := hb j
      rw [e, yarnV_eq p g w b _ h1.2 hc.1 (by omega)]
      have b0 : 0 ≤ (2 * p + g) * (100 + w) := Int.mul_nonneg (by omega) (by omega)
      have b1 : (2 * p + g) * (100 + w) ≤ 100 * 200 := Int.mul_le_mul (by omega) (by omega) (by omega) (by omega)
      have d0 : 0 ≤ cs.getD j 0 * ((2 * p + g) * (100 + w)) := Int.mul_nonneg hc.1 b0
      have d1 : cs.getD j 0 * ((2 * p + g) * (100 + w)) ≤ 64 * (100 * 200) := Int.mul_le_mul hc.2 b1 b0 (by omega)
      omega
    refine ⟨(ys.map (ballV b), true), by rw [List.length_map]; omega, Ev.bind a1 ?_, Ev.bind a2 ?_, ys, rfl, by omega, a1, a2, hbd⟩
    · simp only [if_true]
      obtain ⟨r, hr, h⟩ := Ev.loopE (fun k i (s : List Int) => spec_BallsByColor.l0 k s ys i p g w b) ys.length (fun i s => s = (ys.take i).map (ballV b)) (fun r => r = (ys.map (ballV b), true))
        (fun s hs => ⟨(s, true), by rw [hs, List.take_length], Ev.step (fun k => by rw [spec_BallsByColor.l0, if_neg (by omega)]) (Ev.now _)⟩)
        (fun i s hi hs => by
          have hl : s.length ≤ i := by rw [hs, List.length_map, List.length_take]; omega
          have e0 : rd ys (i : Int) = ys.getD i 0 := rfl
          refine ⟨s ++ [ballV b (ys.getD i 0)], by rw [hs, take_succ_getD 0 ys i hi, List.map_append]; rfl, fun r h2 => Ev.step (fun k => ?_) h2⟩
          rw [spec_BallsByColor.l0, if_pos (by omega), if_pos (by omega), if_neg hz, if_pos (by omega), e0, wrap_id ((i : Int) + 1) (by omega) (by omega)]
          rfl) [] (by simp)
      subst hr
      exact h
    · obtain ⟨r, hr, h⟩ := Ev.loopE (fun k i (s : List Int) => impl_BallsByColor.l0 k s true (ys.length : Int) i p g w b) ys.length (fun i s => s = (ys.take i).map (ballV b) ++ ys.drop i) (fun r => r = (ys.map (ballV b), true))
        (fun s hs => ⟨(s, true), by rw [hs]; simp, Ev.step (fun k => by rw [impl_BallsByColor.l0, if_neg (by omega)]) (Ev.now _)⟩)
        (fun i s hi hs => by
          have hl : s.length = ys.length := by rw [hs]; exact mid_length _ _ _
          have e0 : rd s (i : Int) = ys.getD i 0 := by rw [hs]; exact mid_getD (ballV b) 0 ys i hi
          refine ⟨s.set i (ballV b (ys.getD i 0)), by rw [hs]; exact set_mid (ballV b) 0 ys i hi, fun r h2 => Ev.step (fun k => ?_) h2⟩
          have ec : impl_ceilDiv.f (ys.getD i 0) (wrap64 (1000 * b)) = some (ballV b (ys.getD i 0)) := by
            unfold impl_ceilDiv.f
            rw [if_neg hz]
            rfl
          rw [impl_BallsByColor.l0, if_pos (by omega), if_pos (by omega), if_pos (by omega), e0, ec, Option.bind_some, Int.toNat_natCast, wrap_id ((i : Int) + 1) (by omega) (by omega)]) ys (by simp)
      subst hr
      exact h
theorem yarn_eq (p g w b n : Int) : impl_Yarn_yarn.f p g w b n = some (wrap64 (Int.tdiv (wrap64 ((wrap64 ((wrap64 (n * (wrap64 ((wrap64 ((wrap64 (2 * p)) + g)) * (wrap64 (100 + w)))))) + 100)) - 1)) 100)) := by
  unfold impl_Yarn_yarn.f impl_Yarn_hundredths.f impl_ceilDiv.f
  simp
theorem same_yarn (p g w b n : Int) (h : okYarn p g w b = true) (h0 : 0 ≤ n) (h1 : n ≤ 100000) : spec_l10For.f p g w b n = impl_Yarn_yarn.f p g w b n := by
  obtain ⟨hp, hg, hw, hb⟩ := (okYarn_iff p g w b).1 h
  rw [yarn_eq]
  unfold spec_l10For.f
  have a1 : wrap64 (2 * p) = 2 * p := wrap_id _ (by omega) (by omega)
  have a2 : wrap64 (2 * p + g) = 2 * p + g := wrap_id _ (by omega) (by omega)
  have a3 : wrap64 (100 + w) = 100 + w := wrap_id _ (by omega) (by omega)
  obtain ⟨s, hs⟩ : ∃ s, s = 2 * p + g := ⟨_, rfl⟩
  obtain ⟨u, hu⟩ : ∃ u, u = 100 + w := ⟨_, rfl⟩
  rw [a1, a2, a3, ← hs, ← hu]
  have s0 : 0 ≤ s := by omega
  have s1 : s ≤ 100 := by omega
  have u0 : 0 ≤ u := by omega
  have u1 : u ≤ 200 := by omega
  have b0 : 0 ≤ s * u := Int.mul_nonneg s0 u0
  have b1 : s * u ≤ 100 * 200 := Int.mul_le_mul s1 u1 u0 (by omega)
  have c0 : 0 ≤ n * s := Int.mul_nonneg h0 s0
  have c1 : n * s ≤ 100000 * 100 := Int.mul_le_mul h1 s1 s0 (by omega)
  have d0 : 0 ≤ n * (s * u) := Int.mul_nonneg h0 b0
  have d1 : n * (s * u) ≤ 100000 * (100 * 200) := Int.mul_le_mul h1 b1 b0 (by omega)
  rw [wrap_id (s * u) (by omega) (by omega), wrap_id (n * s) (by omega) (by omega), wrap_id (n * (s * u)) (by omega) (by omega), Int.mul_assoc]
  rw [wrap_id (n * (s * u)) (by omega) (by omega), wrap_id (n * (s * u) + 99) (by omega) (by omega), wrap_id (n * (s * u) + 100) (by omega) (by omega), wrap_id (n * (s * u) + 100 - 1) (by omega) (by omega)]
  congr 3
  omega
theorem yT_bd (p g w b : Int) (h : okYarn p g w b = true) : 300 ≤ (2 * p + g) * (100 + w) ∧ (2 * p + g) * (100 + w) ≤ 20000 ∧ wrap64 ((wrap64 ((wrap64 (2 * p)) + g)) * (wrap64 (100 + w))) = (2 * p + g) * (100 + w) := by
  obtain ⟨hp, hg, hw, hb⟩ := (okYarn_iff p g w b).1 h
  have b0 : 3 * 100 ≤ (2 * p + g) * (100 + w) := Int.mul_le_mul (by omega) (by omega) (by omega) (by omega)
  have b1 : (2 * p + g) * (100 + w) ≤ 100 * 200 := Int.mul_le_mul (by omega) (by omega) (by omega) (by omega)
  rw [wrap_id (2 * p) (by omega) (by omega), wrap_id (2 * p + g) (by omega) (by omega), wrap_id (100 + w) (by omega) (by omega), wrap_id ((2 * p + g) * (100 + w)) (by omega) (by omega)]
  exact ⟨by omega, by omega, rfl⟩
def yarnN (p g w n : Int) : Int := (n * ((2 * p + g) * (100 + w)) + 99) / 100
def knotN (p g w n : Int) : Int := 100 * n / ((2 * p + g) * (100 + w))
theorem YarnFor_spec (p g w b n : Int) : spec_YarnFor.f p g w b n = some (if (okYarn p g w b && rng n 0 100000) = true then (yarnN p g w n, true) else (0, false)) := by
  unfold spec_YarnFor.f
  simp only [l10Good_eq, l1In_eq, Option.bind_some]
  cases h : okYarn p g w b with
  | false => rfl
  | true =>
    cases h2 : rng n 0 100000 with
    | false => rfl
    | true =>
      have := (rng_iff _ _ _).1 h2
      simp only [l10For_eq, yarnV_eq p g w b n h this.1 this.2, if_true, Option.bind_some, Bool.and_self]
      rfl
theorem YarnFor_impl (p g w b n : Int) : impl_YarnFor.f p g w b n = some (if (okYarn p g w b && rng n 0 100000) = true then (yarnN p g w n, true) else (0, false)) := by
  rw [← YarnFor_spec]
  unfold spec_YarnFor.f impl_YarnFor.f
  simp only [l10Good_eq, l1In_eq, IsYarn_eq, in_eq, Option.bind_some]
  cases h : okYarn p g w b with
  | false => rfl
  | true =>
    cases h2 : rng n 0 100000 with
    | false => rfl
    | true =>
      have := (rng_iff _ _ _).1 h2
      rw [same_yarn p g w b n h this.1 this.2]
theorem KnotsFrom_impl (p g w b n : Int) : impl_KnotsFrom.f p g w b n = some (if (okYarn p g w b && rng n 0 100000) = true then (knotN p g w n, true) else (0, false)) := by
  unfold impl_KnotsFrom.f impl_Yarn_hundredths.f
  simp only [IsYarn_eq, in_eq, Option.bind_some]
  cases h : okYarn p g w b with
  | false => rfl
  | true =>
    cases h2 : rng n 0 100000 with
    | false => rfl
    | true =>
      have hn := (rng_iff _ _ _).1 h2
      obtain ⟨t0, t1, t2⟩ := yT_bd p g w b h
      have q0 : 0 ≤ 100 * n / ((2 * p + g) * (100 + w)) := Int.ediv_nonneg (by omega) (by omega)
      have q1 : 100 * n / ((2 * p + g) * (100 + w)) ≤ 100 * n := Int.ediv_le_self _ (by omega)
      simp only [t2, if_true, Bool.and_self]
      rw [if_neg (by omega), wrap_id (100 * n) (by omega) (by omega), Int.tdiv_eq_ediv_of_nonneg (by omega), wrap_id _ (by omega) (by omega)]
      rfl
theorem KnotsFrom_spec (p g w b n : Int) : spec_KnotsFrom.f p g w b n = some (if (okYarn p g w b && rng n 0 100000) = true then (knotN p g w n, true) else (0, false)) := by
  rw [← KnotsFrom_impl]
  unfold spec_KnotsFrom.f impl_KnotsFrom.f impl_Yarn_hundredths.f
  simp only [IsYarn_eq, in_eq, l10Good_eq, l1In_eq, Option.bind_some]
theorem yarn_knots (p g w b n : Int) (h : okYarn p g w b = true) (hn : 0 ≤ n) : 0 ≤ yarnN p g w n ∧ n ≤ knotN p g w (yarnN p g w n) ∧ knotN p g w (yarnN p g w n - 1) < n := by
  obtain ⟨t0, t1, _⟩ := yT_bd p g w b h
  unfold knotN yarnN
  obtain ⟨T, hT⟩ : ∃ T, T = (2 * p + g) * (100 + w) := ⟨_, rfl⟩
  rw [← hT] at t0 t1 ⊢
  obtain ⟨m, hm⟩ : ∃ m, m = n * T := ⟨_, rfl⟩
  have m0 : 0 ≤ m := by rw [hm]; exact Int.mul_nonneg hn (by omega)
  rw [← hm]
  refine ⟨by omega, ?_, ?_⟩
  · rw [Int.le_ediv_iff_mul_le (by omega), ← hm]
    omega
  · rw [Int.ediv_lt_iff_lt_mul (by omega), ← hm]
    omega
theorem ball_fact (b y : Int) (hb : 1 ≤ b ∧ b ≤ 1000) (hy : 0 ≤ y ∧ y ≤ 1000000) : (0 ≤ ballV b y ∧ ballV b y ≤ 2000000) ∧ y ≤ wrap64 (wrap64 (1000 * b) * ballV b y) ∧ (ballV b y > 0 → wrap64 (wrap64 (1000 * b) * wrap64 (ballV b y - 1)) < y) := by
  obtain ⟨B, hB⟩ : ∃ B, B = 1000 * b := ⟨_, rfl⟩
  obtain ⟨q, hq⟩ : ∃ q, q = (y + B - 1) / B := ⟨_, rfl⟩
  have q0 : 0 ≤ q := by rw [hq]; exact Int.ediv_nonneg (by omega) (by omega)
  have q1 : q ≤ y + B - 1 := by rw [hq]; exact Int.ediv_le_self _ (by omega)
  have e : ballV b y = q := by
    unfold ballV
    rw [← hB, wrap_id B (by omega) (by omega), wrap_id (y + B) (by omega) (by omega), wrap_id (y + B - 1) (by omega) (by omega), Int.tdiv_eq_ediv_of_nonneg (by omega), ← hq, wrap_id q (by omega) (by omega)]
  have d1 := Int.emod_add_mul_ediv (y + B - 1) B
  have d2 := Int.emod_nonneg (y + B - 1) (show B ≠ 0 by omega)
  have d3 := Int.emod_lt_of_pos (y + B - 1) (show 0 < B by omega)
  rw [← hq] at d1
  obtain ⟨m, hm⟩ : ∃ m, m = B * q := ⟨_, rfl⟩
  rw [← hm] at d1
  rw [e, ← hB, wrap_id B (by omega) (by omega), wrap_id (q - 1) (by omega) (by omega), Int.mul_sub, Int.mul_one, ← hm]
  refine ⟨by omega, ?_, fun hp => ?_⟩
  · rw [wrap_id m (by omega) (by omega)]; omega
  · rw [wrap_id (m - B) (by omega) (by omega)]; omega
theorem vInts_ev (l : List Int) (hl : l.length ≤ 1000) : Ev (fun k => laws_vInts.f k l l) true := by
  refine Ev.congr (f := fun k => laws_vInts.l0 k l l 0) (fun k => by unfold laws_vInts.f; rw [if_pos rfl]) ?_
  obtain ⟨r, hr, h⟩ := Ev.loopE (fun k i (_ : Unit) => laws_vInts.l0 k l l i) l.length (fun _ _ => True) (fun r => r = true)
    (fun s _ => ⟨true, rfl, Ev.step (f := fun _ => some true) (fun k => by rw [laws_vInts.l0, if_neg (by omega)]) (Ev.now true)⟩)
    (fun i s hi _ => ⟨(), trivial, fun r h => Ev.step (fun k => by rw [laws_vInts.l0, if_pos (by omega), if_pos (by omega), if_pos (by omega), if_pos rfl, wrap_id _ (by omega) (by omega)]) h⟩) () trivial
  subst hr
  exact h
theorem FnYarns (l0 : List (Int)) (q_l0 : (l0.length ≤ maxLen ∧ ∀ q ∈ l0, (Lit.int .u8 q).wf = true)) : ∃ k, laws_FnYarns.f k l0 = some true := by
  by_cases hb : (l0.length : Int) > 65536
  · refine ⟨0, ?_⟩
    unfold laws_FnYarns.f laws_vBig.f
    rw [Option.bind_some, decide_eq_true hb, if_pos rfl]
  · have hc : codeOk l0 := codeOk_of l0 (by omega) q_l0.2
    have fin : Ev (fun k => laws_FnYarns.f k l0) true := by
      have j3 : Ev (fun k => laws_FnYarns.j3 k l0) true := by
        obtain ⟨cw, ch, cl, p, g, w, b, hl, d1⟩ := drawB l0 hc
        obtain ⟨r, hr, s1, s2, ys, hy, hy6, y1, y2, hbd⟩ := Balls_same cw ch cl p g w b (by omega)
        refine Ev.step (fun k => by rw [laws_FnYarns.j3]) (Ev.bind d1 (Ev.bind s2 (Ev.bind s1 ?_)))
        simp only [bne_self_eq_false, Bool.false_eq_true, if_false]
        refine Ev.bind (vInts_ev r.1 (by omega)) (Ev.step (fun k => by rw [laws_FnYarns.j4, Bool.not_true, if_neg (by decide)]) (Ev.bind y2 (Ev.bind y1 ?_)))
        simp only [bne_self_eq_false, Bool.false_eq_true, if_false]
        refine Ev.bind (vInts_ev ys (by omega)) (Ev.step (fun k => by rw [laws_FnYarns.j5, Bool.not_true, if_neg (by decide)]) ?_)
        have hlen : r.1.length = ys.length := by rw [hy, List.length_map]
        have lp : ∀ d i : Nat, i + d = ys.length → Ev (fun k => laws_FnYarns.l0 k l0 r.1 ys (i : Int) p g w b) true := by
          intro d
          induction d with
          | zero =>
            intro i hi
            obtain ⟨p', g', w', b', n, dk⟩ := drawK l0 hc
            refine Ev.step (f := fun _ => some true) (fun k => ?_) (Ev.now _)
            rw [laws_FnYarns.l0, if_neg (by omega), dk, Option.bind_some]
            simp only [KnotsFrom_impl, KnotsFrom_spec, Option.bind_some, if_true, beq_self_eq_true]
          | succ d ih =>
            intro i hi
            have G := ih (i + 1) (by omega)
            rw [show ((i + 1 : Nat) : Int) = (i : Int) + 1 by omega] at G
            obtain ⟨hy0, hb0⟩ := hbd i (by omega)
            obtain ⟨f1, f2, f3⟩ := ball_fact b (ys.getD i 0) hb0 hy0
            have e1 : rd r.1 (i : Int) = ballV b (ys.getD i 0) := by
              show r.1.getD i 0 = _
              rw [hy, List.getD_eq_getElem?_getD, List.getElem?_map, List.getElem?_eq_getElem (by omega), List.getD_eq_getElem?_getD, List.getElem?_eq_getElem (by omega)]
              rfl
            have e2 : rd ys (i : Int) = ys.getD i 0 := rfl
            refine Ev.step (fun k => ?_) G
            rw [laws_FnYarns.l0, if_pos (by omega), if_pos (by omega), if_pos (by omega), e1, e2, if_neg (by omega), wrap_id ((i : Int) + 1) (by omega) (by omega)]
            by_cases c : ballV b (ys.getD i 0) > 0
            · have := f3 c
              rw [if_pos c, if_neg (by omega)]
            · rw [if_neg c]
        exact lp ys.length 0 (by omega)
      obtain ⟨p, g, w, b, n, dr⟩ := drawY l0 hc
      have j1f : ∀ x : Int, Ev (fun k => laws_FnYarns.j1 k l0 n x false p g w b) true := fun x => Ev.step (fun k => by rw [laws_FnYarns.j1, if_neg (by decide)]) j3
      unfold laws_FnYarns.f laws_vBig.f
      simp only [Option.bind_some, decide_eq_false hb, Bool.false_eq_true, if_false, dr, YarnFor_impl, YarnFor_spec, if_true, bne_self_eq_false, IsYarn_eq, spec_IsYarn.f, l10Good_eq]
      by_cases c : (okYarn p g w b && rng n 0 100000) = true
      · rw [if_pos c]
        rw [Bool.and_eq_true, rng_iff] at c
        obtain ⟨k0, k1, k2⟩ := yarn_knots p g w b n c.1 c.2.1
        refine Ev.step (fun k => by rw [laws_FnYarns.j0, if_neg (by decide), if_pos rfl]) ?_
        by_cases cy : yarnN p g w n ≤ 100000
        · rw [decide_eq_true cy]
          refine Ev.step (fun k => by rw [laws_FnYarns.j1, if_pos rfl, KnotsFrom_impl, if_pos (by rw [c.1, (rng_iff _ _ _).2 ⟨k0, cy⟩]; rfl), Option.bind_some]) ?_
          simp only [if_true, decide_eq_false (show ¬ knotN p g w (yarnN p g w n) < n by omega)]
          by_cases c0 : yarnN p g w n > 0
          · refine Ev.step (fun k => by rw [laws_FnYarns.j2, if_neg (by decide), if_pos c0, wrap_id (yarnN p g w n - 1) (by omega) (by omega), KnotsFrom_impl, if_pos (by rw [c.1, (rng_iff _ _ _).2 ⟨by omega, by omega⟩]; rfl), Option.bind_some]) ?_
            simp only [if_true, if_neg (show ¬ knotN p g w (yarnN p g w n - 1) ≥ n by omega)]
            exact j3
          · exact Ev.step (fun k => by rw [laws_FnYarns.j2, if_neg (by decide), if_neg c0]) j3
        · rw [decide_eq_false cy]
          exact j1f _
      · rw [if_neg c]
        exact Ev.step (fun k => by rw [laws_FnYarns.j0, if_neg (by decide), if_neg (by decide)]) (j1f _)
    obtain ⟨K, hK⟩ := fin
    exact ⟨K, hK K (Nat.le_refl _)⟩
end Go.Proofs.Ytnkecgldapagcaa.Pure
