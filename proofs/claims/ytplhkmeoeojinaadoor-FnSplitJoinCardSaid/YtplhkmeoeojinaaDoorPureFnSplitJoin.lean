/- The plain law of FnSplitJoin: what the program's functions compute is what the reference's compute. No program and no memory in it. -/
import Derived.Test.YtplhkmeoeojinaaDoorHx2
import Derived.Test.YtplhkmeoeojinaaDoorLps
namespace Go.Proofs.YtplhkmeoeojinaaDoor.Pure
open Go.RowKit Go.Proofs.YtplhkmeoeojinaaDoorW.PrintWords Go.Proofs.YtplhkmeoeojinaaDoorW.PrintLast Go.Proofs.YtplhkmeoeojinaaDoor.H
set_option linter.unusedVariables false
set_option linter.unusedSimpArgs false
theorem low8 (y : Int) : 0 ≤ Go.bits .and .u64 y 255 ∧ Go.bits .and .u64 y 255 ≤ 255 := by
  have h : ((BitVec.ofInt 64 y) &&& (BitVec.ofInt 64 255)).toNat ≤ 255 := by
    rw [BitVec.toNat_and]
    exact Nat.le_trans Nat.and_le_right (by decide)
  have e : Go.bits .and .u64 y 255 = IntKind.u64.wrap ((((BitVec.ofInt 64 y) &&& (BitVec.ofInt 64 255)).toNat : Nat) : Int) := rfl
  have e2 : ∀ n : Nat, n ≤ 255 → IntKind.u64.wrap (n : Int) = (n : Int) := fun n hn => by
    show (n : Int) % 18446744073709551616 = (n : Int)
    omega
  rw [e, e2 _ h]
  omega
def codeOk (code : List Int) : Prop := code.length ≤ 70000 ∧ ∀ i : Int, 0 ≤ rd code i ∧ rd code i ≤ 255
theorem codeOk_of (code : List Int) (hl : code.length ≤ 70000) (h : ∀ x ∈ code, (Lit.int .u8 x).wf = true) : codeOk code := by
  refine ⟨hl, fun i => ?_⟩
  unfold rd
  rw [List.getD_eq_getElem?_getD]
  by_cases c : i.toNat < code.length
  · rw [List.getElem?_eq_getElem c]
    have := h _ (List.getElem_mem c)
    have h3 : (decide (IntKind.u8.min ≤ code[i.toNat]) && decide (code[i.toNat] ≤ IntKind.u8.max)) = true := this
    rw [Bool.and_eq_true, decide_eq_true_iff, decide_eq_true_iff, show IntKind.u8.min = 0 by decide, show IntKind.u8.max = 255 by decide] at h3
    exact h3
  · rw [List.getElem?_eq_none (by omega)]
    exact ⟨by decide, by decide⟩
theorem next_ok (code : List Int) (hc : codeOk code) (at_ seed : Int) (h0 : 0 ≤ at_) (h1 : at_ ≤ 1000000) : ∃ x s, spec_l1Cur_next.f code at_ seed = some (x, at_ + 1, s) ∧ 0 ≤ x ∧ x ≤ 255 := by
  have hw : wrap64 (at_ + 1) = at_ + 1 := wrap_id _ (by omega) (by omega)
  have hb := hc.2 at_
  unfold spec_l1Cur_next.f
  rw [hw]
  by_cases c : at_ < (code.length : Int)
  · rw [if_pos c, if_pos h0, if_pos (by omega)]
    exact ⟨_, _, rfl, by rw [wrap_id _ (by omega) (by omega)]; exact hb⟩
  · rw [if_neg c, if_neg (by omega)]
    refine ⟨_, _, rfl, ?_⟩
    have := low8 ((IntKind.u64.wrap ((IntKind.u64.wrap ((IntKind.u64.wrap (seed * 6364136223846793005)))) + 102323)) / 1099511627776)
    rw [wrap_id _ (by omega) (by omega)]
    exact this
/-- a number is drawn: it lies below n, and the place moves on by two at most -/
theorem pick_ok (code : List Int) (hc : codeOk code) (at_ seed n : Int) (h0 : 0 ≤ at_) (h1 : at_ ≤ 900000) (hn : n ≤ 1000000) : ∃ x a s, spec_l1Cur_pick.f code at_ seed n = some (x, a, s) ∧ 0 ≤ x ∧ (x < n ∨ x = 0) ∧ at_ ≤ a ∧ a ≤ at_ + 2 := by
  unfold spec_l1Cur_pick.f
  by_cases c : n ≤ 1
  · exact ⟨0, at_, seed, by rw [if_pos c], by omega, .inr rfl, by omega, by omega⟩
  · rw [if_neg c]
    obtain ⟨x, s, e, x0, x1⟩ := next_ok code hc at_ seed h0 (by omega)
    rw [e, Option.bind_some]
    dsimp only
    by_cases c2 : n > 200
    · rw [if_pos c2]
      obtain ⟨y, s2, e2, y0, y1⟩ := next_ok code hc (at_ + 1) s (by omega) (by omega)
      rw [e2, Option.bind_some, if_neg (by omega)]
      dsimp only
      rw [wrap_id (x * 256) (by omega) (by omega), wrap_id (x * 256 + y) (by omega) (by omega)]
      exact ⟨_, _, _, rfl, Int.tmod_nonneg _ (by omega), .inl (Int.tmod_lt_of_pos _ (by omega)), by omega, by omega⟩
    · rw [if_neg c2, if_neg (by omega)]
      exact ⟨_, _, _, rfl, Int.tmod_nonneg _ x0, .inl (Int.tmod_lt_of_pos _ (by omega)), by omega, by omega⟩
theorem one_ok (code : List Int) (hc : codeOk code) (at_ seed n : Int) (h0 : 0 ≤ at_) (h1 : at_ ≤ 900000) (hn : n ≤ 1000000) : ∃ x a s, spec_l1Cur_one.f code at_ seed n = some (x, a, s) ∧ at_ ≤ a ∧ a ≤ at_ + 2 := by
  unfold spec_l1Cur_one.f
  obtain ⟨x, a, s, e, _, _, a0, a1⟩ := pick_ok code hc at_ seed n h0 h1 hn
  rw [e, Option.bind_some]
  exact ⟨_, a, s, rfl, a0, a1⟩
theorem of_ok (code : List Int) (hc : codeOk code) (at_ seed : Int) (l : List ByteArray) (hl : 0 < l.length ∧ l.length ≤ 1000) (h0 : 0 ≤ at_) (h1 : at_ ≤ 900000) : ∃ x a s, spec_l1Cur_of.f code at_ seed l = some (x, a, s) ∧ x ∈ l ∧ at_ ≤ a ∧ a ≤ at_ + 2 := by
  unfold spec_l1Cur_of.f
  obtain ⟨x, a, s, e, x0, x1, a0, a1⟩ := pick_ok code hc at_ seed (l.length : Int) h0 h1 (by omega)
  rw [e, Option.bind_some]
  dsimp only
  have hx : x < (l.length : Int) := by omega
  rw [if_pos x0, if_pos hx]
  refine ⟨_, a, s, rfl, ?_, a0, a1⟩
  show l.getD x.toNat ByteArray.empty ∈ l
  rw [List.getD_eq_getElem?_getD, List.getElem?_eq_getElem (by omega)]
  exact List.getElem_mem (by omega)
def anyL : List ByteArray := [(⟨#[]⟩ : ByteArray), (⟨#[97]⟩ : ByteArray), (⟨#[97, 44, 98]⟩ : ByteArray), (⟨#[115, 111, 109, 101, 32, 119, 111, 114, 100, 115]⟩ : ByteArray), (⟨#[120, 35, 121]⟩ : ByteArray), (⟨#[45, 49, 50]⟩ : ByteArray), (⟨#[0, 255]⟩ : ByteArray), (⟨#[44, 44]⟩ : ByteArray), (⟨#[48]⟩ : ByteArray)]
def sepL : List ByteArray := [(⟨#[44]⟩ : ByteArray), (⟨#[44]⟩ : ByteArray), (⟨#[32]⟩ : ByteArray), (⟨#[]⟩ : ByteArray), (⟨#[44, 44]⟩ : ByteArray)]
theorem any1_ok (code : List Int) (hc : codeOk code) (at_ seed : Int) (h0 : 0 ≤ at_) (h1 : at_ ≤ 900000) : ∃ x a s, spec_l1Cur_any1.f code at_ seed = some (x, a, s) ∧ x ∈ anyL ∧ at_ ≤ a ∧ a ≤ at_ + 2 := by
  unfold spec_l1Cur_any1.f
  obtain ⟨x, a, s, e, m, a0, a1⟩ := of_ok code hc at_ seed anyL (by decide) h0 h1
  unfold anyL at e
  rw [e, Option.bind_some]
  exact ⟨x, a, s, rfl, m, a0, a1⟩
theorem any_size : ∀ x ∈ anyL, x.size ≤ 10 := by decide
theorem drawSplit (code : List Int) (hc : codeOk code) : ∃ s m, spec_DrawSplitString.f code = some (s, m) ∧ s ∈ anyL ∧ m ∈ sepL := by
  unfold spec_DrawSplitString.f
  obtain ⟨x, a, s, e, m, a0, a1⟩ := any1_ok code hc 0 0 (by omega) (by omega)
  obtain ⟨y, b, t, e2, m2, b0, b1⟩ := of_ok code hc a s sepL (by decide) (by omega) (by omega)
  unfold sepL at e2
  rw [e, Option.bind_some]
  dsimp only
  rw [e2, Option.bind_some]
  exact ⟨x, y, rfl, m, m2⟩
theorem drawLess (code : List Int) (hc : codeOk code) : ∃ s m, spec_DrawLessString.f code = some (s, m) ∧ s ∈ anyL ∧ m ∈ anyL := by
  unfold spec_DrawLessString.f
  obtain ⟨x, a, s, e, m, a0, a1⟩ := any1_ok code hc 0 0 (by omega) (by omega)
  obtain ⟨y, b, t, e2, m2, b0, b1⟩ := any1_ok code hc a s (by omega) (by omega)
  rw [e, Option.bind_some]
  dsimp only
  rw [e2, Option.bind_some]
  exact ⟨x, y, rfl, m, m2⟩
theorem drawJoin_l0 (code : List Int) (hc : codeOk code) (n : Int) (hn : n ≤ 4) (d : Nat) : ∀ (i at_ seed : Int) (xs : List ByteArray), 0 ≤ i → i + (d : Int) = 5 → (xs.length : Int) = i → (∀ x ∈ xs, x.size ≤ 5000) → 0 ≤ at_ → at_ + 10 * (d : Int) ≤ 1000 →
    ∃ (l : List ByteArray) (m : ByteArray), (l.length ≤ 10 ∧ ∀ x ∈ l, x.size ≤ 5000) ∧ Ev (fun k => spec_DrawJoinStrings.l0 k xs n i code at_ seed) (l, m) := by
  have tail : ∀ (i at_ seed : Int) (xs : List ByteArray), ¬ i < n → xs.length ≤ 9 → (∀ x ∈ xs, x.size ≤ 5000) → 0 ≤ at_ → at_ ≤ 2000 → ∃ (l : List ByteArray) (m : ByteArray), (l.length ≤ 10 ∧ ∀ x ∈ l, x.size ≤ 5000) ∧ Ev (fun k => spec_DrawJoinStrings.l0 k xs n i code at_ seed) (l, m) := by
    intro i at_ seed xs hi hx hsz a0 a1
    obtain ⟨o, b, t, e, u, v⟩ := one_ok code hc at_ seed 20 a0 (by omega) (by omega)
    cases o with
    | false =>
      obtain ⟨m, b2, t2, e2, _, u2, v2⟩ := of_ok code hc b t [(⟨#[44]⟩ : ByteArray), (⟨#[59]⟩ : ByteArray), (⟨#[59]⟩ : ByteArray), (⟨#[]⟩ : ByteArray), (⟨#[97, 98]⟩ : ByteArray)] (by decide) (by omega) (by omega)
      refine ⟨xs, m, ⟨by omega, hsz⟩, Ev.step (f := fun _ => some (xs, m)) (fun k => ?_) (Ev.now _)⟩
      rw [spec_DrawJoinStrings.l0, if_neg hi, e, Option.bind_some]
      dsimp only
      rw [if_neg Bool.false_ne_true, e2, Option.bind_some]
    | true =>
      obtain ⟨y, b1, t1, e1, y0, y1, u1, v1⟩ := pick_ok code hc b t 20 (by omega) (by omega) (by omega)
      obtain ⟨m, b2, t2, e2, _, u2, v2⟩ := of_ok code hc b1 t1 [(⟨#[44]⟩ : ByteArray), (⟨#[59]⟩ : ByteArray), (⟨#[59]⟩ : ByteArray), (⟨#[]⟩ : ByteArray), (⟨#[97, 98]⟩ : ByteArray)] (by decide) (by omega) (by omega)
      have wy : wrap64 (3990 + y) = 3990 + y := wrap_id _ (by omega) (by omega)
      refine ⟨xs ++ [strOfNums (List.replicate (wrap64 (3990 + y) : Int).toNat 0)], m, ⟨by rw [List.length_append, List.length_singleton]; omega, fun x hx2 => ?_⟩, Ev.step (f := fun _ => some (xs ++ [strOfNums (List.replicate (wrap64 (3990 + y) : Int).toNat 0)], m)) (fun k => ?_) (Ev.now _)⟩
      · rcases List.mem_append.1 hx2 with hx2 | hx2
        · exact hsz x hx2
        · rw [List.mem_singleton.1 hx2, strOfNums_size, List.length_replicate, wy]
          omega
      · rw [spec_DrawJoinStrings.l0, if_neg hi, e, Option.bind_some]
        dsimp only
        rw [if_pos rfl, e1, Option.bind_some]
        dsimp only
        rw [if_pos (by omega), if_pos (by omega), if_pos (by omega), e2, Option.bind_some]
  induction d with
  | zero =>
    intro i at_ seed xs h0 hi hx hsz a0 a1
    exact tail i at_ seed xs (by omega) (by omega) hsz a0 (by omega)
  | succ d ih =>
    intro i at_ seed xs h0 hi hx hsz a0 a1
    by_cases c : i < n
    · obtain ⟨x, b, t, e, m, u, v⟩ := any1_ok code hc at_ seed a0 (by omega)
      obtain ⟨l, mk, g1, g2⟩ := ih (i + 1) b t (xs ++ [x]) (by omega) (by omega) (by rw [List.length_append, List.length_singleton]; omega) (fun y hy => by
        rcases List.mem_append.1 hy with hy | hy
        · exact hsz y hy
        · rw [List.mem_singleton.1 hy]; have := any_size x m; omega) (by omega) (by omega)
      refine ⟨l, mk, g1, Ev.step (fun k => ?_) g2⟩
      rw [spec_DrawJoinStrings.l0, if_pos c, e, Option.bind_some]
      dsimp only
      rw [if_pos (by omega), wrap_id (i + 1) (by omega) (by omega)]
    · exact tail i at_ seed xs c (by omega) hsz a0 (by omega)
theorem drawJoin (code : List Int) (hc : codeOk code) : ∃ (l : List ByteArray) (m : ByteArray), (l.length ≤ 10 ∧ ∀ x ∈ l, x.size ≤ 5000) ∧ Ev (fun k => spec_DrawJoinStrings.f k code) (l, m) := by
  obtain ⟨n, a, s, e, n0, n1, a0, a1⟩ := pick_ok code hc 0 0 4 (by omega) (by omega) (by omega)
  obtain ⟨l, m, h1, h2⟩ := drawJoin_l0 code hc n (by omega) 5 0 a s [] (by omega) (by omega) (by simp) (fun x hx => by cases hx) (by omega) (by omega)
  refine ⟨l, m, h1, ?_⟩
  unfold spec_DrawJoinStrings.f
  simp only [e, Option.bind_some]
  exact h2
theorem dapp (a b : ByteArray) : (a ++ b).data.toList = a.data.toList ++ b.data.toList := by
  obtain ⟨a⟩ := a
  obtain ⟨b⟩ := b
  rw [ByteArray.mk_append_mk]
theorem bt_data (s : ByteArray) (i : Nat) (h : i < s.data.toList.length) : bt s (i : Int) = ((s.data.toList[i]).toNat : Int) := by
  have hs : i < s.size := by rw [Lib.size_eq]; exact h
  unfold bt
  rw [dif_pos (show ((i : Int)).toNat < s.size by omega)]
  have e : ∀ (j : Nat) (hj : j < s.size) (e : j = i), s[j] = s.data.toList[i] := fun j hj e => by subst e; rfl
  rw [e _ _ (Int.toNat_natCast i)]
theorem stands_ev (s : ByteArray) (c : UInt8) (hs : s.size ≤ 1000000) : Ev (fun k => spec_l1Stands.f k s ((c.toNat : Nat) : Int)) (s.data.toList.contains c) := by
  unfold spec_l1Stands.f
  have hsz := Lib.size_eq s
  have key : ∀ d i : Nat, i + d = s.data.toList.length → Ev (fun k => spec_l1Stands.l0 k s ((c.toNat : Nat) : Int) (i : Int)) ((s.data.toList.drop i).contains c) := by
    intro d
    induction d with
    | zero =>
      intro i hi
      rw [List.drop_eq_nil_of_le (by omega)]
      exact Ev.step (f := fun _ => some false) (fun k => by rw [spec_l1Stands.l0, if_neg (by omega)]) (Ev.now _)
    | succ d ih =>
      intro i hi
      have hlt : i < s.data.toList.length := by omega
      have eb := bt_data s i hlt
      rw [List.drop_eq_getElem_cons hlt, List.contains_cons]
      by_cases e : s.data.toList[i] = c
      · rw [show (c == s.data.toList[i]) = true from beq_iff_eq.2 e.symm, Bool.true_or]
        exact Ev.step (f := fun _ => some true) (fun k => by rw [spec_l1Stands.l0, if_pos (by omega), if_pos (by omega), eb, if_pos (by rw [e])]) (Ev.now _)
      · rw [show (c == s.data.toList[i]) = false from beq_eq_false_iff_ne.2 (fun h => e h.symm), Bool.false_or]
        have G := ih (i + 1) (by omega)
        rw [show ((i + 1 : Nat) : Int) = (i : Int) + 1 from by omega] at G
        exact Ev.step (fun k => by rw [spec_l1Stands.l0, if_pos (by omega), if_pos (by omega), eb, if_neg (fun h => e (UInt8.toNat_inj.1 (by omega))), wrap_id ((i : Int) + 1) (by omega) (by omega)]) G
  exact key s.data.toList.length 0 (by omega)
def sums (l : List ByteArray) : Nat := (l.map (·.size)).sum
theorem sums_cons (x : ByteArray) (l : List ByteArray) : sums (x :: l) = x.size + sums l := by unfold sums; rw [List.map_cons, List.sum_cons]
theorem sums_le (l : List ByteArray) (h : ∀ x ∈ l, x.size ≤ 5000) : sums l ≤ 5000 * l.length := by
  induction l with
  | nil => exact Nat.le_refl _
  | cons x l ih =>
    have := ih (fun y hy => h y (List.mem_cons_of_mem _ hy))
    have := h x (by simp)
    rw [sums_cons, List.length_cons]
    omega
def jn (m : ByteArray) : ByteArray → List ByteArray → ByteArray
  | out, [] => out
  | out, p :: r => jn m ((out ++ m) ++ p) r
theorem jn_data (m : ByteArray) (r : List ByteArray) : ∀ out : ByteArray, (jn m out r).data.toList = out.data.toList ++ Lib.joinTail m.data.toList (r.map (·.data.toList)) := by
  induction r with
  | nil => intro out; simp [jn, Lib.joinTail]
  | cons p r ih => intro out; rw [jn, ih, dapp, dapp]; simp [Lib.joinTail, List.append_assoc]
theorem jn_size (m : ByteArray) (r : List ByteArray) : ∀ out : ByteArray, (jn m out r).size = out.size + r.length * m.size + sums r := by
  induction r with
  | nil => intro out; simp [jn, sums]
  | cons p r ih =>
    intro out
    rw [jn, ih, ByteArray.size_append, ByteArray.size_append, sums_cons, List.length_cons, Nat.succ_mul]
    omega
def noneHas (l : List ByteArray) (c : UInt8) : Bool := l.all fun p => !(p.data.toList.contains c)
theorem sep_bt (c : UInt8) : bt ⟨#[c]⟩ 0 = ((c.toNat : Nat) : Int) := rfl
theorem noneHas_cons (p : ByteArray) (l : List ByteArray) (c : UInt8) : noneHas (p :: l) c = (!(p.data.toList.contains c) && noneHas l c) := by unfold noneHas; rw [List.all_cons]
theorem implJoin_ev (l : List ByteArray) (c : UInt8) (v : ByteArray) (hl : l.length ≤ 10) (hsz : ∀ x ∈ l, x.size ≤ 5000) (hv : l.length - 1 + sums l ≤ 4000 → strings_Join.f l ⟨#[c]⟩ = some v) : ∀ (d i n : Nat), i + d = l.length → n + sums (l.drop i) = l.length - 1 + sums l → (0 < d ∨ n ≤ 4000) → n ≤ 4000 + l.length → Ev (fun k => impl_JoinStrings.l0 k l ⟨#[c]⟩ (n : Int) l (l.length : Int) (i : Int)) (if noneHas (l.drop i) c = true ∧ n + sums (l.drop i) ≤ 4000 then (v, true) else (⟨#[]⟩, false)) := by
  intro d
  induction d with
  | zero =>
    intro i n hi hn hb hc
    rw [List.drop_eq_nil_of_le (by omega)] at hn ⊢
    have e0 : sums [] = 0 := rfl
    have hn4 : n ≤ 4000 := hb.elim (fun h => absurd h (Nat.lt_irrefl 0)) id
    rw [if_pos ⟨rfl, by omega⟩]
    refine Ev.step (f := fun _ => some (v, true)) (fun k => ?_) (Ev.now _)
    rw [impl_JoinStrings.l0, if_neg (by omega), hv (by omega), Option.bind_some]
  | succ d ih =>
    intro i n hi hn hb hc
    have hlt : i < l.length := by omega
    have er : rdOf ByteArray.empty l (i : Int) = l[i] := by
      show l.getD i ByteArray.empty = _
      rw [List.getD_eq_getElem?_getD, List.getElem?_eq_getElem hlt]; rfl
    have hp := hsz l[i] (List.getElem_mem hlt)
    rw [List.drop_eq_getElem_cons hlt] at hn ⊢
    rw [sums_cons] at hn
    have ec : strings_Contains.f l[i] ⟨#[c]⟩ = some (l[i].data.toList.contains c) := rfl
    rw [noneHas_cons, sums_cons]
    cases hh : l[i].data.toList.contains c with
    | true =>
      rw [if_neg (fun h => by have := h.1; simp at this)]
      exact Ev.step (f := fun _ => some (⟨#[]⟩, false)) (fun k => by rw [impl_JoinStrings.l0, if_pos (by omega), if_pos (by omega), if_pos (by omega), er, ec, hh, Option.bind_some, if_pos rfl]) (Ev.now _)
    | false =>
      have wn : wrap64 ((n : Int) + (l[i].size : Int)) = ((n + l[i].size : Nat) : Int) := by rw [wrap_id _ (by omega) (by omega)]; omega
      by_cases c4 : n + l[i].size ≤ 4000
      · have G := ih (i + 1) (n + l[i].size) (by omega) (by omega) (.inr c4) (by omega)
        rw [show ((i + 1 : Nat) : Int) = (i : Int) + 1 from by omega, Nat.add_assoc] at G
        rw [show (!false && noneHas (l.drop (i + 1)) c) = noneHas (l.drop (i + 1)) c from Bool.true_and _]
        refine Ev.step (fun k => ?_) G
        rw [impl_JoinStrings.l0, if_pos (by omega), if_pos (by omega), if_pos (by omega), er, ec, hh, Option.bind_some, if_neg Bool.false_ne_true, wn, if_neg (by omega), wrap_id ((i : Int) + 1) (by omega) (by omega)]
      · rw [if_neg (fun h => by have := h.2; omega)]
        exact Ev.step (f := fun _ => some (⟨#[]⟩, false)) (fun k => by rw [impl_JoinStrings.l0, if_pos (by omega), if_pos (by omega), if_pos (by omega), er, ec, hh, Option.bind_some, if_neg Bool.false_ne_true, wn, if_pos (by omega)]) (Ev.now _)
theorem specJoin_ev (l : List ByteArray) (c : UInt8) (hl : l.length ≤ 10) (hsz : ∀ x ∈ l, x.size ≤ 5000) : ∀ (d i : Nat) (out : ByteArray), i + d = l.length → 1 ≤ i → out.size ≤ 4000 → Ev (fun k => spec_JoinStrings.l0 k l ⟨#[c]⟩ out (i : Int)) (if noneHas (l.drop i) c = true ∧ (jn ⟨#[c]⟩ out (l.drop i)).size ≤ 4000 then (jn ⟨#[c]⟩ out (l.drop i), true) else (⟨#[]⟩, false)) := by
  intro d
  induction d with
  | zero =>
    intro i out hi h1 ho
    rw [List.drop_eq_nil_of_le (by omega), if_pos ⟨rfl, ho⟩]
    exact Ev.step (f := fun _ => some (out, true)) (fun k => by rw [spec_JoinStrings.l0, if_neg (by omega)]) (Ev.now _)
  | succ d ih =>
    intro i out hi h1 ho
    have hlt : i < l.length := by omega
    have er : rdOf ByteArray.empty l (i : Int) = l[i] := by
      show l.getD i ByteArray.empty = _
      rw [List.getD_eq_getElem?_getD, List.getElem?_eq_getElem hlt]; rfl
    have hp := hsz l[i] (List.getElem_mem hlt)
    have hst := stands_ev l[i] c (by omega)
    have hms : (⟨#[c]⟩ : ByteArray).size = 1 := rfl
    have hs1 : (out ++ (⟨#[c]⟩ : ByteArray)).size = out.size + 1 := by rw [ByteArray.size_append, hms]
    have hs2 : ((out ++ (⟨#[c]⟩ : ByteArray)) ++ l[i]).size = out.size + 1 + l[i].size := by rw [ByteArray.size_append, hs1]
    rw [List.drop_eq_getElem_cons hlt, noneHas_cons, jn]
    have hjs := jn_size ⟨#[c]⟩ (l.drop (i + 1)) ((out ++ ⟨#[c]⟩) ++ l[i])
    refine Ev.step (f := fun k => (spec_l1Stands.f k l[i] ((c.toNat : Nat) : Int)).bind _) (fun k => by rw [spec_JoinStrings.l0, if_pos (by omega), if_pos (by omega), hms, if_pos (by decide), er, sep_bt]) (Ev.bind hst ?_)
    cases hh : l[i].data.toList.contains c with
    | true =>
      rw [if_neg (fun h => by have := h.1; simp at this)]
      simp only [if_true]
      exact Ev.now _
    | false =>
      rw [show (!false && noneHas (l.drop (i + 1)) c) = noneHas (l.drop (i + 1)) c from Bool.true_and _]
      simp only [Bool.false_eq_true, if_false, if_pos (show (i : Int) > 0 by omega), if_pos (show out.size + 1 ≤ 9223372036854775807 by omega), hs1, if_pos (show out.size + 1 + l[i].size ≤ 9223372036854775807 by omega), hs2]
      by_cases c4 : out.size + 1 + l[i].size ≤ 4000
      · have G := ih (i + 1) ((out ++ ⟨#[c]⟩) ++ l[i]) (by omega) (by omega) (by omega)
        rw [show ((i + 1 : Nat) : Int) = (i : Int) + 1 from by omega] at G
        simp only [if_neg (show ¬ ((out.size + 1 + l[i].size : Nat) : Int) > 4000 by omega), wrap_id ((i : Int) + 1) (show -9223372036854775808 ≤ (i : Int) + 1 by omega) (show (i : Int) + 1 ≤ 9223372036854775807 by omega)]
        exact G
      · rw [if_neg (fun h => by have := h.2; omega)]
        simp only [if_pos (show ((out.size + 1 + l[i].size : Nat) : Int) > 4000 by omega)]
        exact Ev.now _
def joinV (l : List ByteArray) (m : ByteArray) : ByteArray := ⟨(Lib.join (l.map (·.data.toList)) m.data.toList).toArray⟩
theorem joins_same (l : List ByteArray) (m : ByteArray) (hl : l.length ≤ 10) (hsz : ∀ x ∈ l, x.size ≤ 5000) : ∃ r : ByteArray × Bool, Ev (fun k => impl_JoinStrings.f k l m) r ∧ Ev (fun k => spec_JoinStrings.f k l m) r ∧ ∀ c, m = ⟨#[c]⟩ → l ≠ [] → noneHas l c = true → l.length - 1 + sums l ≤ 4000 → r = (joinV l m, true) := by
  have hi0 : Ev (fun k => impl_JoinStrings.j0 k l m true) (⟨#[]⟩, false) := Ev.step (f := fun _ => some (⟨#[]⟩, false)) (fun k => by rw [impl_JoinStrings.j0, if_pos rfl]) (Ev.now _)
  have hs0 : Ev (fun k => spec_JoinStrings.j0 k l m true) (⟨#[]⟩, false) := Ev.step (f := fun _ => some (⟨#[]⟩, false)) (fun k => by rw [spec_JoinStrings.j0, if_pos rfl]) (Ev.now _)
  unfold impl_JoinStrings.f spec_JoinStrings.f
  cases l with
  | nil =>
    refine ⟨(⟨#[]⟩, false), by simp only [List.length_nil]; exact hi0, ?_, fun c _ h => absurd rfl h⟩
    by_cases c1 : (m.size : Int) = 1
    · simp only [if_pos c1, List.length_nil]; exact hs0
    · simp only [if_neg c1]; exact hs0
  | cons x r =>
    have hne : ¬ (((x :: r).length : Int) = 0) := by rw [List.length_cons]; omega
    by_cases c1 : (m.size : Int) = 1
    · obtain ⟨c, rfl⟩ : ∃ c : UInt8, m = ⟨#[c]⟩ := by
        obtain ⟨⟨q⟩⟩ := m
        have hq : q.length = 1 := by have : ((⟨⟨q⟩⟩ : ByteArray).size : Int) = 1 := c1; exact Int.ofNat_inj.1 this
        match q, hq with
        | [c], _ => exact ⟨c, rfl⟩
      have hx := hsz x (by simp)
      have hlr : r.length ≤ 9 := by rw [List.length_cons] at hl; omega
      have hsr := sums_le r (fun y hy => hsz y (List.mem_cons_of_mem _ hy))
      have hjd : (jn ⟨#[c]⟩ x r).data.toList = Lib.join ((x :: r).map (·.data.toList)) [c] := by
        rw [jn_data, List.map_cons, Lib.join_cons]
      have hjv : jn ⟨#[c]⟩ x r = joinV (x :: r) ⟨#[c]⟩ := by
        unfold joinV
        show _ = (⟨(Lib.join ((x :: r).map (·.data.toList)) [c]).toArray⟩ : ByteArray)
        rw [← hjd]
      have hjs := jn_size ⟨#[c]⟩ r x
      have hms : (⟨#[c]⟩ : ByteArray).size = 1 := rfl
      rw [hms, Nat.mul_one] at hjs
      have hjl : (Lib.join ((x :: r).map (·.data.toList)) [c]).length = x.size + r.length + sums r := by rw [← hjd, ← Lib.size_eq, hjs]
      have hv : strings_Join.f (x :: r) ⟨#[c]⟩ = some (joinV (x :: r) ⟨#[c]⟩) := by
        unfold strings_Join.f
        refine if_pos ⟨by simp, by rw [List.length_cons]; omega, ?_⟩
        show (Lib.join ((x :: r).map (·.data.toList)) [c]).length ≤ 1000000000
        rw [hjl]
        omega
      have hI := implJoin_ev (x :: r) c (joinV (x :: r) ⟨#[c]⟩) hl hsz (fun _ => hv) (r.length + 1) 0 r.length (by rw [List.length_cons]; omega) (by rw [List.drop_zero, List.length_cons]; omega) (.inl (by omega)) (by rw [List.length_cons]; omega)
      rw [List.drop_zero, noneHas_cons, sums_cons] at hI
      obtain ⟨R, hR⟩ : ∃ R : ByteArray × Bool, R = if (!(x.data.toList.contains c) && noneHas r c) = true ∧ r.length + (x.size + sums r) ≤ 4000 then (joinV (x :: r) ⟨#[c]⟩, true) else (⟨#[]⟩, false) := ⟨_, rfl⟩
      rw [← hR] at hI
      refine ⟨R, ?_, ?_, fun c2 h2 _ h3 h4 => ?_⟩
      · simp only [if_neg hne, hms]
        exact Ev.step (fun k => by rw [impl_JoinStrings.j0, if_neg (by decide), List.length_cons, wrap_id _ (by omega) (by omega), show (((r.length + 1 : Nat) : Int) - 1) = (r.length : Int) from by omega]; rfl) hI
      · simp only [if_pos c1]
        refine Ev.step (fun k => by rw [spec_JoinStrings.j0, if_neg (by rw [beq_eq_false_iff_ne.2 hne]; decide)]) ?_
        have hst := stands_ev x c (by omega)
        have es : ((⟨#[]⟩ : ByteArray) ++ x) = x := by
          have : ((⟨#[]⟩ : ByteArray) ++ x).data.toList = x.data.toList := by rw [dapp]; rfl
          cases hx1 : ((⟨#[]⟩ : ByteArray) ++ x) with
          | mk a =>
            rw [hx1] at this
            cases x with
            | mk b => congr 1; exact Array.toList_inj.1 this
        have e0 : rdOf ByteArray.empty (x :: r) 0 = x := rfl
        refine Ev.step (f := fun k => (spec_l1Stands.f k x ((c.toNat : Nat) : Int)).bind _) (fun k => by rw [spec_JoinStrings.l0, if_pos (by rw [List.length_cons]; omega), if_pos (by omega), hms, if_pos (by decide), e0, sep_bt]) (Ev.bind hst ?_)
        rw [hR]
        cases hh : x.data.toList.contains c with
        | true =>
          rw [if_neg (fun h => by have := h.1; simp at this)]
          simp only [if_true]
          exact Ev.now _
        | false =>
          rw [show (!false && noneHas r c) = noneHas r c from Bool.true_and _]
          simp only [Bool.false_eq_true, if_false, if_neg (show ¬ (0 : Int) > 0 by omega), es, show (⟨#[]⟩ : ByteArray).size = 0 from rfl, Nat.zero_add, if_pos (show x.size ≤ 9223372036854775807 by omega)]
          by_cases c4 : x.size ≤ 4000
          · have G := specJoin_ev (x :: r) c hl hsz r.length 1 x (by rw [List.length_cons]; omega) (Nat.le_refl _) c4
            rw [show (x :: r).drop 1 = r from rfl, hjv] at G
            have hjs2 : (joinV (x :: r) ⟨#[c]⟩).size = x.size + r.length + sums r := by rw [← hjv]; exact hjs
            simp only [if_neg (show ¬ (x.size : Int) > 4000 by omega), show wrap64 (0 + 1) = ((1 : Nat) : Int) from by rw [wrap_id (0 + 1) (by omega) (by omega)]; rfl]
            have ei : (noneHas r c = true ∧ r.length + (x.size + sums r) ≤ 4000) ↔ (noneHas r c = true ∧ (joinV (x :: r) ⟨#[c]⟩).size ≤ 4000) := by
              rw [hjs2]
              exact ⟨fun h => ⟨h.1, by omega⟩, fun h => ⟨h.1, by omega⟩⟩
            by_cases hq : noneHas r c = true ∧ (joinV (x :: r) ⟨#[c]⟩).size ≤ 4000
            · rw [if_pos hq] at G
              rw [if_pos (ei.2 hq)]
              exact G
            · rw [if_neg hq] at G
              rw [if_neg (fun h => hq (ei.1 h))]
              exact G
          · rw [if_neg (fun h => by have := h.2; omega)]
            simp only [if_pos (show (x.size : Int) > 4000 by omega)]
            exact Ev.now _
      · have hcc : c2 = c := by
          have : (⟨#[c]⟩ : ByteArray).data.toList = (⟨#[c2]⟩ : ByteArray).data.toList := by rw [h2]
          injection this with h _
          exact h.symm
        subst hcc
        rw [noneHas_cons] at h3
        rw [sums_cons, List.length_cons] at h4
        rw [hR, if_pos ⟨h3, by omega⟩]
    · refine ⟨(⟨#[]⟩, false), ?_, ?_, fun c h => absurd (by rw [h]; rfl) c1⟩
      · simp only [if_neg hne, show ((m.size : Int) != 1) = true from bne_iff_ne.2 c1]; exact hi0
      · simp only [if_neg c1]; exact hs0
def splitOk (s : ByteArray) (c : UInt8) : Bool :=
  noneHas (Lib.splitB ⟨#[c]⟩ 0 (Lib.countB s ⟨#[c]⟩) s) c && decide ((Lib.splitB ⟨#[c]⟩ 0 (Lib.countB s ⟨#[c]⟩) s).length ≤ 10) && decide (Lib.splitB ⟨#[c]⟩ 0 (Lib.countB s ⟨#[c]⟩) s ≠ []) && (Lib.splitB ⟨#[c]⟩ 0 (Lib.countB s ⟨#[c]⟩) s).all (fun x => decide (x.size ≤ 100)) && decide ((joinV (Lib.splitB ⟨#[c]⟩ 0 (Lib.countB s ⟨#[c]⟩) s) ⟨#[c]⟩).data.toList = s.data.toList)
theorem split_44 : anyL.all (fun s => splitOk s 44) = true := by decide +kernel
theorem split_32 : anyL.all (fun s => splitOk s 32) = true := by decide +kernel
theorem less_fin : anyL.all (fun a => anyL.all fun b => !(Op.bytesLess a.data.toList b.data.toList && Op.bytesLess b.data.toList a.data.toList)) = true := by decide +kernel
theorem FnSplitJoin (l0 : List (Int)) (q_l0 : (l0.length ≤ maxLen ∧ ∀ q ∈ l0, (Lit.int .u8 q).wf = true)) : ∃ k, laws_FnSplitJoin.f k l0 = some true := by
  by_cases hb : (l0.length : Int) > 65536
  · refine ⟨0, ?_⟩
    unfold laws_FnSplitJoin.f laws_vBig.f
    rw [Option.bind_some, decide_eq_true hb, if_pos rfl]
  · have hc : codeOk l0 := codeOk_of l0 (by omega) q_l0.2
    have fin : Ev (fun k => laws_FnSplitJoin.f k l0) true := by
      obtain ⟨s, m, d1, hs, hm⟩ := drawSplit l0 hc
      obtain ⟨l, mk, ⟨q1, q2⟩, d2⟩ := drawJoin l0 hc
      obtain ⟨a, b, d3, ha, hbb⟩ := drawLess l0 hc
      obtain ⟨r, r1, r2, _⟩ := joins_same l mk q1 q2
      have hss : s.size ≤ 10 := any_size s hs
      have one : ∀ c : UInt8, splitOk s c = true → impl_SplitString.f s ⟨#[c]⟩ = some (Lib.splitB ⟨#[c]⟩ 0 (Lib.countB s ⟨#[c]⟩) s, true) ∧ Ev (fun k => laws_FnSplitJoin.j0 k s ⟨#[c]⟩ (Lib.splitB ⟨#[c]⟩ 0 (Lib.countB s ⟨#[c]⟩) s) true false) true := fun c h => by
        unfold splitOk at h
        rw [Bool.and_eq_true, Bool.and_eq_true, Bool.and_eq_true, Bool.and_eq_true] at h
        obtain ⟨⟨⟨⟨g1, g2⟩, g3⟩, g4⟩, g5⟩ := h
        replace g2 := of_decide_eq_true g2
        replace g3 := of_decide_eq_true g3
        replace g5 := of_decide_eq_true g5
        constructor
        · unfold impl_SplitString.f strings_Split.f
          rw [if_neg (by omega), if_pos (show (((⟨#[c]⟩ : ByteArray).size : Nat) : Int) = 1 from rfl), if_pos ⟨rfl, by omega⟩, Option.bind_some]
        · obtain ⟨L, hL⟩ : ∃ L, L = Lib.splitB ⟨#[c]⟩ 0 (Lib.countB s ⟨#[c]⟩) s := ⟨_, rfl⟩
          rw [← hL] at g1 g2 g3 g4 g5 ⊢
          have hz : ∀ x ∈ L, x.size ≤ 100 := fun x hx => of_decide_eq_true (List.all_eq_true.1 g4 x hx)
          have hsum : sums L ≤ 100 * L.length := by
            clear g1 g2 g3 g4 g5 hL
            induction L with
            | nil => exact Nat.le_refl _
            | cons x t ih =>
              have := ih (fun y hy => hz y (List.mem_cons_of_mem _ hy))
              have := hz x (by simp)
              rw [sums_cons, List.length_cons]
              omega
          obtain ⟨v, v1, _, v3⟩ := joins_same L ⟨#[c]⟩ g2 (fun x hx => by have := hz x hx; omega)
          have hv := v3 c rfl g3 g1 (by omega)
          subst hv
          refine Ev.step (fun k => by rw [laws_FnSplitJoin.j0, if_neg (by decide), if_pos (show (((⟨#[c]⟩ : ByteArray).size : Nat) : Int) = 1 from rfl)]) (Ev.bind v1 ?_)
          simp only [if_true]
          rw [Lib.toList_data, Lib.toList_data, g5, beq_self_eq_true]
          exact Ev.now _
      have none1 : ∀ m2 : ByteArray, ¬ ((m2.size : Int) = 1) → impl_SplitString.f s m2 = some ([], false) ∧ Ev (fun k => laws_FnSplitJoin.j0 k s m2 [] false false) true := fun m2 h => by
        constructor
        · unfold impl_SplitString.f
          rw [if_neg (by omega), if_neg h]
        · exact Ev.step (f := fun _ => some true) (fun k => by rw [laws_FnSplitJoin.j0, if_neg (by decide), if_neg h, if_neg (by decide)]; rfl) (Ev.now _)
      have part : ∃ L o, impl_SplitString.f s m = some (L, o) ∧ Ev (fun k => laws_FnSplitJoin.j0 k s m L o false) true := by
        unfold sepL at hm
        simp only [List.mem_cons, List.not_mem_nil, or_false] at hm
        have h44 := List.all_eq_true.1 split_44 s hs
        have h32 := List.all_eq_true.1 split_32 s hs
        rcases hm with rfl | rfl | rfl | rfl | rfl
        · exact ⟨_, _, (one 44 h44).1, (one 44 h44).2⟩
        · exact ⟨_, _, (one 44 h44).1, (one 44 h44).2⟩
        · exact ⟨_, _, (one 32 h32).1, (one 32 h32).2⟩
        · exact ⟨_, _, (none1 _ (by decide)).1, (none1 _ (by decide)).2⟩
        · exact ⟨_, _, (none1 _ (by decide)).1, (none1 _ (by decide)).2⟩
      obtain ⟨L, o, e1, j0⟩ := part
      have hless := List.all_eq_true.1 (List.all_eq_true.1 less_fin a ha) b hbb
      unfold laws_FnSplitJoin.f laws_vBig.f
      simp only [Option.bind_some, decide_eq_false hb, Bool.false_eq_true, if_false, d1, e1]
      refine Ev.bind d2 (Ev.bind r1 (Ev.bind r2 ?_))
      simp only [d3, Option.bind_some, if_true, bne_self_eq_false, Bool.false_eq_true, if_false, impl_LessString.f, spec_LessString.f, Lib.toList_data]
      cases h1 : Op.bytesLess a.data.toList b.data.toList with
      | false => simp only [Bool.false_eq_true, if_false]; exact j0
      | true =>
        rw [h1] at hless
        cases h2 : Op.bytesLess b.data.toList a.data.toList with
        | false => simp only [if_true]; exact j0
        | true => rw [h2] at hless; cases hless
    obtain ⟨K, hK⟩ := fin
    exact ⟨K, hK K (Nat.le_refl _)⟩
end Go.Proofs.YtplhkmeoeojinaaDoor.Pure
