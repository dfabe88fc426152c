/- The plain law of FnStrings: what the program's functions compute is what the reference's compute. No program and no memory in it. -/
import Derived.Test.YtlfjalobklnkcaaDoorHx3
import Derived.Test.YtlfjalobklnkcaaDoorLps
namespace Go.Proofs.YtlfjalobklnkcaaDoor.Pure
open Go.RowKit Go.Proofs.YtlfjalobklnkcaaDoorW.PrintWords Go.Proofs.YtlfjalobklnkcaaDoorW.PrintLast Go.Proofs.YtlfjalobklnkcaaDoor.H
set_option linter.unusedVariables false
set_option linter.unusedSimpArgs false
theorem low8 (y : Int) : 0 ≤ Go.bits .and .u64 y 255 ∧ Go.bits .and .u64 y 255 ≤ 255 := by
  have h : ((BitVec.ofInt 64 y) &&& (BitVec.ofInt 64 255)).toNat ≤ 255 := by
    rw [BitVec.toNat_and]
    exact Nat.le_trans Nat.and_le_right (by decide)
  have e : Go.bits .and .u64 y 255 = IntKind.u64.wrap ((((BitVec.ofInt 64 y) &&& (BitVec.ofInt 64 255)).toNat : Nat) : Int) := rfl
  have e2 : ∀ n : Nat, n ≤ 255 → IntKind.u64.wrap (n : Int) = (n : Int) := fun n hn => by
    show (n : Int) % 18446744073709551616 = (n : Int)
    omega
  rw [e, e2 _ h]
  omega
def codeOk (code : List Int) : Prop := code.length ≤ 70000 ∧ ∀ i : Int, 0 ≤ rd code i ∧ rd code i ≤ 255
theorem codeOk_of (code : List Int) (hl : code.length ≤ 70000) (h : ∀ x ∈ code, (Lit.int .u8 x).wf = true) : codeOk code := by
  refine ⟨hl, fun i => ?_⟩
  unfold rd
  rw [List.getD_eq_getElem?_getD]
  by_cases c : i.toNat < code.length
  · rw [List.getElem?_eq_getElem c]
    have := h _ (List.getElem_mem c)
    have h3 : (decide (IntKind.u8.min ≤ code[i.toNat]) && decide (code[i.toNat] ≤ IntKind.u8.max)) = true := this
    rw [Bool.and_eq_true, decide_eq_true_iff, decide_eq_true_iff, show IntKind.u8.min = 0 by decide, show IntKind.u8.max = 255 by decide] at h3
    exact h3
  · rw [List.getElem?_eq_none (by omega)]
    exact ⟨by decide, by decide⟩
theorem next_ok (code : List Int) (hc : codeOk code) (at_ seed : Int) (h0 : 0 ≤ at_) (h1 : at_ ≤ 1000000) : ∃ x s, spec_l1Cur_next.f code at_ seed = some (x, at_ + 1, s) ∧ 0 ≤ x ∧ x ≤ 255 := by
  have hw : wrap64 (at_ + 1) = at_ + 1 := wrap_id _ (by omega) (by omega)
  have hb := hc.2 at_
  unfold spec_l1Cur_next.f
  rw [hw]
  by_cases c : at_ < (code.length : Int)
  · rw [if_pos c, if_pos h0, if_pos (by omega)]
    exact ⟨_, _, rfl, by rw [wrap_id _ (by omega) (by omega)]; exact hb⟩
  · rw [if_neg c, if_neg (by omega)]
    refine ⟨_, _, rfl, ?_⟩
    have := low8 ((IntKind.u64.wrap ((IntKind.u64.wrap ((IntKind.u64.wrap (seed * 6364136223846793005)))) + 102323)) / 1099511627776)
    rw [wrap_id _ (by omega) (by omega)]
    exact this
/-- a number is drawn: it lies below n, and the place moves on by two at most -/
theorem pick_ok (code : List Int) (hc : codeOk code) (at_ seed n : Int) (h0 : 0 ≤ at_) (h1 : at_ ≤ 900000) (hn : n ≤ 1000000) : ∃ x a s, spec_l1Cur_pick.f code at_ seed n = some (x, a, s) ∧ 0 ≤ x ∧ (x < n ∨ x = 0) ∧ at_ ≤ a ∧ a ≤ at_ + 2 := by
  unfold spec_l1Cur_pick.f
  by_cases c : n ≤ 1
  · exact ⟨0, at_, seed, by rw [if_pos c], by omega, .inr rfl, by omega, by omega⟩
  · rw [if_neg c]
    obtain ⟨x, s, e, x0, x1⟩ := next_ok code hc at_ seed h0 (by omega)
    rw [e, Option.bind_some]
    dsimp only
    by_cases c2 : n > 200
    · rw [if_pos c2]
      obtain ⟨y, s2, e2, y0, y1⟩ := next_ok code hc (at_ + 1) s (by omega) (by omega)
      rw [e2, Option.bind_some, if_neg (by omega)]
      dsimp only
      rw [wrap_id (x * 256) (by omega) (by omega), wrap_id (x * 256 + y) (by omega) (by omega)]
      exact ⟨_, _, _, rfl, Int.tmod_nonneg _ (by omega), .inl (Int.tmod_lt_of_pos _ (by omega)), by omega, by omega⟩
    · rw [if_neg c2, if_neg (by omega)]
      exact ⟨_, _, _, rfl, Int.tmod_nonneg _ x0, .inl (Int.tmod_lt_of_pos _ (by omega)), by omega, by omega⟩
theorem one_ok (code : List Int) (hc : codeOk code) (at_ seed n : Int) (h0 : 0 ≤ at_) (h1 : at_ ≤ 900000) (hn : n ≤ 1000000) : ∃ x a s, spec_l1Cur_one.f code at_ seed n = some (x, a, s) ∧ at_ ≤ a ∧ a ≤ at_ + 2 := by
  unfold spec_l1Cur_one.f
  obtain ⟨x, a, s, e, _, _, a0, a1⟩ := pick_ok code hc at_ seed n h0 h1 hn
  rw [e, Option.bind_some]
  exact ⟨_, a, s, rfl, a0, a1⟩
theorem of_ok (code : List Int) (hc : codeOk code) (at_ seed : Int) (l : List ByteArray) (hl : 0 < l.length ∧ l.length ≤ 1000) (h0 : 0 ≤ at_) (h1 : at_ ≤ 900000) : ∃ x a s, spec_l1Cur_of.f code at_ seed l = some (x, a, s) ∧ x ∈ l ∧ at_ ≤ a ∧ a ≤ at_ + 2 := by
  unfold spec_l1Cur_of.f
  obtain ⟨x, a, s, e, x0, x1, a0, a1⟩ := pick_ok code hc at_ seed (l.length : Int) h0 h1 (by omega)
  rw [e, Option.bind_some]
  dsimp only
  have hx : x < (l.length : Int) := by omega
  rw [if_pos x0, if_pos hx]
  refine ⟨_, a, s, rfl, ?_, a0, a1⟩
  show l.getD x.toNat ByteArray.empty ∈ l
  rw [List.getD_eq_getElem?_getD, List.getElem?_eq_getElem (by omega)]
  exact List.getElem_mem (by omega)
theorem among_ok (code : List Int) (hc : codeOk code) (at_ seed : Int) (l : List Int) (hl : 0 < l.length ∧ l.length ≤ 1000) (h0 : 0 ≤ at_) (h1 : at_ ≤ 900000) : ∃ x a s, spec_l1Cur_among.f code at_ seed l = some (x, a, s) ∧ x ∈ l ∧ at_ ≤ a ∧ a ≤ at_ + 2 := by
  unfold spec_l1Cur_among.f
  obtain ⟨x, a, s, e, x0, x1, a0, a1⟩ := pick_ok code hc at_ seed (l.length : Int) h0 h1 (by omega)
  rw [e, Option.bind_some]
  dsimp only
  have hx : x < (l.length : Int) := by omega
  rw [if_pos x0, if_pos hx]
  refine ⟨_, a, s, rfl, ?_, a0, a1⟩
  show l.getD x.toNat 0 ∈ l
  rw [List.getD_eq_getElem?_getD, List.getElem?_eq_getElem (by omega)]
  exact List.getElem_mem (by omega)
theorem ofNat_small (n : Nat) (h : n < 256) : (UInt8.ofNat n).toNat = n := by
  have : (UInt8.ofNat n).toNat = n % 256 := by simp [UInt8.toNat_ofNat']
  omega
def dig (b : UInt8) : Prop := 48 ≤ b.toNat ∧ b.toNat ≤ 57
theorem dd_digit (u : Nat) : ∀ b ∈ Lib.decDigits u, dig b := by
  induction u using Nat.strongRecOn with
  | _ u ih =>
    intro b hb
    by_cases h : u < 10
    · rw [Lib.decDigits_one h] at hb
      rw [List.mem_singleton.1 hb]
      unfold dig
      rw [ofNat_small _ (by omega)]
      omega
    · rw [Lib.decDigits, dif_neg h] at hb
      rcases List.mem_append.1 hb with hb | hb
      · exact ih (u / 10) (by omega) b hb
      · rw [List.mem_singleton.1 hb]
        unfold dig
        rw [ofNat_small _ (by omega)]
        omega
def dv (a : Nat) (b : UInt8) : Nat := 10 * a + (b.toNat - 48)
theorem dv_eq (a : Nat) (b : UInt8) : dv a b = 10 * a + (b.toNat - 48) := by unfold dv; exact Eq.refl _
attribute [irreducible] dv
def fv : Nat → List UInt8 → Nat
  | acc, [] => acc
  | acc, b :: l => fv (dv acc b) l
theorem fv_nil (acc : Nat) : fv acc [] = acc := by rw [fv]
theorem fv_cons (acc : Nat) (l : List UInt8) (b : UInt8) : fv acc (b :: l) = fv (10 * acc + (b.toNat - 48)) l := by rw [fv, dv_eq]
theorem fv_snoc (l : List UInt8) (b : UInt8) : ∀ acc : Nat, fv acc (l ++ [b]) = 10 * fv acc l + (b.toNat - 48) := by
  induction l with
  | nil => intro acc; rw [List.nil_append, fv_cons, fv_nil, fv_nil]
  | cons c l ih => intro acc; rw [List.cons_append, fv_cons, fv_cons, ih]
theorem fv_dd (u : Nat) : fv 0 (Lib.decDigits u) = u := by
  induction u using Nat.strongRecOn with
  | _ u ih =>
    by_cases h : u < 10
    · rw [Lib.decDigits_one h]
      rw [fv_cons, fv_nil, ofNat_small _ (by omega)]
      omega
    · rw [Lib.decDigits, dif_neg h, fv_snoc, ih (u / 10) (by omega), ofNat_small _ (by omega)]
      omega
theorem dd_inj (u v : Nat) (h : Lib.decDigits u = Lib.decDigits v) : u = v := by rw [← fv_dd u, h, fv_dd]
theorem dd_len (d : Nat) : ∀ u, u < 10 ^ (d + 1) → 1 ≤ (Lib.decDigits u).length ∧ (Lib.decDigits u).length ≤ d + 1 := by
  induction d with
  | zero =>
    intro u hu
    rw [Lib.decDigits_one (by simpa using hu)]
    exact ⟨Nat.le_refl _, Nat.le_refl _⟩
  | succ d ih =>
    intro u hu
    by_cases h : u < 10
    · rw [Lib.decDigits_one h]
      exact ⟨Nat.le_refl _, by simp⟩
    · have := ih (u / 10) (by rw [Nat.pow_succ] at hu; omega)
      rw [Lib.decDigits, dif_neg h, List.length_append, List.length_singleton]
      omega
theorem fv_ge (l : List UInt8) : ∀ acc, acc ≤ fv acc l := by
  induction l with
  | nil => intro acc; rw [fv_nil]; exact Nat.le_refl _
  | cons b l ih => intro acc; rw [fv_cons]; have := ih (10 * acc + (b.toNat - 48)); omega
theorem parse10 (l : List UInt8) : ∀ acc, (∀ b ∈ l, dig b) → fv acc l < 1000000000 → Lib.parseUint10 acc l = .ok (fv acc l) := by
  induction l with
  | nil => intro acc _ _; rw [fv_nil]; rfl
  | cons b l ih =>
    intro acc hd hv
    have hb : 48 ≤ b.toNat ∧ b.toNat ≤ 57 := hd b (by simp)
    have hg := fv_ge l (10 * acc + (b.toNat - 48))
    rw [fv_cons] at hv ⊢
    rw [Lib.parseUint10, if_pos hb, if_neg (by omega), if_neg (by omega), show acc * 10 + (b.toNat - 48) = 10 * acc + (b.toNat - 48) by omega]
    exact ih _ (fun x hx => hd x (by simp [hx])) hv
theorem itoa_pos (n : Int) (h : 0 ≤ n) : Lib.itoa n = Lib.decDigits n.toNat := by unfold Lib.itoa; rw [if_neg (by omega)]
theorem itoa_neg' (n : Int) (h : n < 0) : Lib.itoa n = 45 :: Lib.decDigits n.natAbs := by unfold Lib.itoa; rw [if_pos h]
theorem dd_cons (u : Nat) : ∃ c r, Lib.decDigits u = c :: r ∧ dig c := by
  cases h : Lib.decDigits u with
  | nil =>
    have h1 := fv_dd u
    by_cases h2 : u < 10
    · rw [Lib.decDigits_one h2] at h; cases h
    · rw [Lib.decDigits, dif_neg h2] at h
      exact absurd h (by simp)
  | cons c r => exact ⟨c, r, rfl, dd_digit u c (by rw [h]; simp)⟩
theorem atoi_itoa (n : Int) (h : -999999 ≤ n ∧ n ≤ 999999) : Lib.atoiAll (Lib.itoa n) = .ok n := by
  by_cases hn : n < 0
  · rw [itoa_neg' n hn]
    obtain ⟨c, r, e, hc⟩ := dd_cons n.natAbs
    have hp := parse10 (Lib.decDigits n.natAbs) 0 (dd_digit _) (by rw [fv_dd]; omega)
    rw [fv_dd] at hp
    have hm : Lib.parseMag (Lib.decDigits n.natAbs) = .ok n.natAbs := by unfold Lib.parseMag; rw [if_neg (by rw [e]; simp)]; exact hp
    unfold Lib.atoiAll
    dsimp only
    rw [if_pos (show (45 : UInt8).toNat = 43 ∨ (45 : UInt8).toNat = 45 from .inr rfl), hm]
    dsimp only
    rw [if_neg (by rintro ⟨a, _⟩; exact a rfl), if_neg (by omega), if_pos (show (45 : UInt8).toNat = 45 from rfl)]
    congr 1
    omega
  · rw [itoa_pos n (by omega)]
    obtain ⟨c, r, e, hc⟩ := dd_cons n.toNat
    have hp := parse10 (Lib.decDigits n.toNat) 0 (dd_digit _) (by rw [fv_dd]; omega)
    rw [fv_dd] at hp
    have hm : Lib.parseMag (Lib.decDigits n.toNat) = .ok n.toNat := by unfold Lib.parseMag; rw [if_neg (by rw [e]; simp)]; exact hp
    unfold dig at hc
    rw [e] at hm ⊢
    unfold Lib.atoiAll
    dsimp only
    rw [if_neg (by omega), hm]
    dsimp only
    rw [if_neg (by omega), if_neg (by omega), if_neg (by omega)]
    congr 1
    omega
def itB (n : Int) : ByteArray := ⟨(Lib.itoa n).toArray⟩
theorem itB_data (n : Int) : (itB n).data.toList = Lib.itoa n := by unfold itB; simp
theorem itB_toList (n : Int) : (itB n).toList = Lib.itoa n := by rw [Lib.toList_data, itB_data]
theorem itB_size (n : Int) : (itB n).size = (Lib.itoa n).length := by rw [Lib.size_eq, itB_data]
theorem ba_ext (a b : ByteArray) (h : a.data.toList = b.data.toList) : a = b := by
  obtain ⟨a⟩ := a
  obtain ⟨b⟩ := b
  congr 1
  exact Array.toList_inj.1 h
theorem dapp (a b : ByteArray) : (a ++ b).data.toList = a.data.toList ++ b.data.toList := by
  obtain ⟨a⟩ := a
  obtain ⟨b⟩ := b
  rw [ByteArray.mk_append_mk]
theorem bt_data (s : ByteArray) (i : Nat) (h : i < s.data.toList.length) : bt s (i : Int) = ((s.data.toList[i]).toNat : Int) := by
  have hs : i < s.size := by rw [Lib.size_eq]; exact h
  unfold bt
  rw [dif_pos (show ((i : Int)).toNat < s.size by omega)]
  have e : ∀ (j : Nat) (hj : j < s.size) (e : j = i), s[j] = s.data.toList[i] := fun j hj e => by subst e; rfl
  rw [e _ _ (Int.toNat_natCast i)]
theorem stands_ev (s : ByteArray) (c : UInt8) (hs : s.size ≤ 1000000) : Ev (fun k => spec_l1Stands.f k s ((c.toNat : Nat) : Int)) (s.data.toList.contains c) := by
  unfold spec_l1Stands.f
  have hsz := Lib.size_eq s
  have key : ∀ d i : Nat, i + d = s.data.toList.length → Ev (fun k => spec_l1Stands.l0 k s ((c.toNat : Nat) : Int) (i : Int)) ((s.data.toList.drop i).contains c) := by
    intro d
    induction d with
    | zero =>
      intro i hi
      rw [List.drop_eq_nil_of_le (by omega)]
      exact Ev.step (f := fun _ => some false) (fun k => by rw [spec_l1Stands.l0, if_neg (by omega)]) (Ev.now _)
    | succ d ih =>
      intro i hi
      have hlt : i < s.data.toList.length := by omega
      have eb := bt_data s i hlt
      rw [List.drop_eq_getElem_cons hlt, List.contains_cons]
      by_cases e : s.data.toList[i] = c
      · rw [show (c == s.data.toList[i]) = true from beq_iff_eq.2 e.symm, Bool.true_or]
        exact Ev.step (f := fun _ => some true) (fun k => by rw [spec_l1Stands.l0, if_pos (by omega), if_pos (by omega), eb, if_pos (by rw [e])]) (Ev.now _)
      · rw [show (c == s.data.toList[i]) = false from beq_eq_false_iff_ne.2 (fun h => e h.symm), Bool.false_or]
        have G := ih (i + 1) (by omega)
        rw [show ((i + 1 : Nat) : Int) = (i : Int) + 1 from by omega] at G
        exact Ev.step (fun k => by rw [spec_l1Stands.l0, if_pos (by omega), if_pos (by omega), eb, if_neg (fun h => e (UInt8.toNat_inj.1 (by omega))), wrap_id ((i : Int) + 1) (by omega) (by omega)]) G
  exact key s.data.toList.length 0 (by omega)
theorem dig_ext : ∀ u : Fin 10, ((⟨#[48, 49, 50, 51, 52, 53, 54, 55, 56, 57]⟩ : ByteArray).extract u.val (u.val + 1)).data.toList = [UInt8.ofNat (48 + u.val)] := by decide
theorem l1Num_nat (u : Nat) (hu : u < 1000000000) : Ev (fun k => spec_l1Num.f k (u : Int)) (itB (u : Int)) := by
  induction u using Nat.strongRecOn with
  | _ u ih =>
    by_cases h : u < 10
    · have e : (⟨#[48, 49, 50, 51, 52, 53, 54, 55, 56, 57]⟩ : ByteArray).extract ((u : Int)).toNat ((u : Int) + 1).toNat = itB (u : Int) := by
        apply ba_ext
        rw [itB_data, itoa_pos _ (by omega), Int.toNat_natCast, Lib.decDigits_one h, show ((u : Int) + 1).toNat = u + 1 by omega]
        exact dig_ext ⟨u, h⟩
      refine Ev.step (f := fun _ => some (itB (u : Int))) (fun k => ?_) (Ev.now _)
      rw [spec_l1Num.f, if_neg (by omega), if_pos (by omega), if_pos (by omega), wrap_id ((u : Int) + 1) (by omega) (by omega), if_pos (by omega), if_pos (by omega), e]
    · have hd : Int.tdiv (u : Int) 10 = ((u / 10 : Nat) : Int) := by rw [Int.tdiv_eq_ediv_of_nonneg (by omega)]; omega
      have hm : Int.tmod (u : Int) 10 = ((u % 10 : Nat) : Int) := by rw [Int.tmod_eq_emod_of_nonneg (by omega)]; omega
      have hlen := dd_len 8 (u / 10) (by omega)
      have hsz : (itB ((u / 10 : Nat) : Int)).size ≤ 9 := by rw [itB_size, itoa_pos _ (by omega), Int.toNat_natCast]; omega
      have e2 : ((⟨#[48, 49, 50, 51, 52, 53, 54, 55, 56, 57]⟩ : ByteArray).extract (((u % 10 : Nat) : Int)).toNat (((u % 10 : Nat) : Int) + 1).toNat).data.toList = [UInt8.ofNat (48 + u % 10)] := by
        rw [Int.toNat_natCast, show (((u % 10 : Nat) : Int) + 1).toNat = u % 10 + 1 by omega]
        exact dig_ext ⟨u % 10, by omega⟩
      have e3 : ((⟨#[48, 49, 50, 51, 52, 53, 54, 55, 56, 57]⟩ : ByteArray).extract (((u % 10 : Nat) : Int)).toNat (((u % 10 : Nat) : Int) + 1).toNat).size = 1 := by rw [Lib.size_eq, e2]; rfl
      have e : itB ((u / 10 : Nat) : Int) ++ (⟨#[48, 49, 50, 51, 52, 53, 54, 55, 56, 57]⟩ : ByteArray).extract (((u % 10 : Nat) : Int)).toNat (((u % 10 : Nat) : Int) + 1).toNat = itB (u : Int) := by
        apply ba_ext
        rw [dapp, e2, itB_data, itB_data, itoa_pos _ (by omega), itoa_pos (u : Int) (by omega), Int.toNat_natCast, Int.toNat_natCast]
        conv => rhs; rw [Lib.decDigits, dif_neg h]
      refine Ev.step (fun k => by rw [spec_l1Num.f, if_neg (by omega), if_neg (by omega), hd, wrap_id _ (by omega) (by omega)]) (Ev.bind (ih (u / 10) (by omega) (by omega)) ?_)
      simp only [hm, wrap_id (((u % 10 : Nat) : Int) + 1) (show -9223372036854775808 ≤ ((u % 10 : Nat) : Int) + 1 by omega) (show ((u % 10 : Nat) : Int) + 1 ≤ 9223372036854775807 by omega), if_pos (show 0 ≤ ((u % 10 : Nat) : Int) by omega), if_pos (show ((u % 10 : Nat) : Int) ≤ ((u % 10 : Nat) : Int) + 1 by omega), if_pos (show ((u % 10 : Nat) : Int) + 1 ≤ 10 by omega), e3, if_pos (show (itB ((u / 10 : Nat) : Int)).size + 1 ≤ 9223372036854775807 by omega), e]
      exact Ev.now _
theorem l1Num_ev (n : Int) (h : -999999999 ≤ n ∧ n ≤ 999999999) : Ev (fun k => spec_l1Num.f k n) (itB n) := by
  by_cases hn : n < 0
  · have G := l1Num_nat n.natAbs (by omega)
    have hlen := dd_len 8 n.natAbs (by omega)
    have hsz : (itB ((n.natAbs : Nat) : Int)).size ≤ 9 := by rw [itB_size, itoa_pos _ (by omega), Int.toNat_natCast]; omega
    have e : (⟨#[45]⟩ : ByteArray) ++ itB ((n.natAbs : Nat) : Int) = itB n := by
      apply ba_ext
      rw [dapp, itB_data, itB_data, itoa_pos _ (by omega), Int.toNat_natCast, itoa_neg' n hn]
      rfl
    refine Ev.step (fun k => by rw [spec_l1Num.f, if_pos hn, wrap_id (-n) (by omega) (by omega), show -n = ((n.natAbs : Nat) : Int) by omega]) (Ev.bind G ?_)
    simp only [if_pos (show 1 + (itB ((n.natAbs : Nat) : Int)).size ≤ 9223372036854775807 by omega), e]
    exact Ev.now _
  · have G := l1Num_nat n.toNat (by omega)
    rw [show ((n.toNat : Nat) : Int) = n by omega] at G
    exact G
theorem itB_len (n : Int) (h : -999999 ≤ n ∧ n ≤ 999999) : 1 ≤ (itB n).size ∧ (itB n).size ≤ 7 := by
  rw [itB_size]
  by_cases hn : n < 0
  · have := dd_len 5 n.natAbs (by omega)
    rw [itoa_neg' n hn, List.length_cons]
    omega
  · have := dd_len 5 n.toNat (by omega)
    rw [itoa_pos n (by omega)]
    omega
theorem itB_inj (n m : Int) (hn : 0 ≤ n) (hm : 0 ≤ m) (h : Lib.itoa n = Lib.itoa m) : n = m := by
  rw [itoa_pos n hn, itoa_pos m hm] at h
  have := dd_inj _ _ h
  omega
theorem itoa_no35 (n : Int) (hn : 0 ≤ n) : ∀ b ∈ Lib.itoa n, b ≠ 35 := by
  rw [itoa_pos n hn]
  intro b hb e
  have := dd_digit _ b hb
  unfold dig at this
  rw [e] at this
  have h35 : (35 : UInt8).toNat = 35 := rfl
  omega
theorem l1In_eq (a b c : Int) : spec_l1In.f a b c = some (rng a b c) := spec_l1In.eq a b c
theorem in_eq (a b c : Int) : impl_in.f a b c = some (rng a b c) := impl_in.eq a b c
def isD (b : UInt8) : Bool := decide (48 ≤ b.toNat) && decide (b.toNat ≤ 57)
def rdFin (s t : ByteArray) (n : Nat) : Int × Bool := if t.size < s.size then (if Lib.itoa (-(n : Int)) = s.data.toList then (-(n : Int), true) else (0, false)) else (if Lib.itoa (n : Int) = s.data.toList then ((n : Int), true) else (0, false))
theorem rd_l0 (s t : ByteArray) (ht : t.size ≤ 6) : ∀ d i acc : Nat, i + d = t.data.toList.length → acc + 1 ≤ 10 ^ i → Ev (fun k => spec_l1Read.l0 k s t (acc : Int) (i : Int)) (if (t.data.toList.drop i).all isD = true then rdFin s t (fv acc (t.data.toList.drop i)) else (0, false)) := by
  have hsz := Lib.size_eq t
  have p6 : ∀ i, i ≤ 6 → (10 : Nat) ^ i ≤ 1000000 := fun i hi => Nat.le_trans (Nat.pow_le_pow_right (by omega) hi) (by decide)
  intro d
  induction d with
  | zero =>
    intro i acc hi ha
    have ha6 := p6 i (by omega)
    rw [List.drop_eq_nil_of_le (by omega), List.all_nil, if_pos rfl, fv_nil]
    unfold rdFin
    by_cases c : t.size < s.size
    · have G := l1Num_ev (-(acc : Int)) (by omega)
      rw [if_pos c]
      refine Ev.step (fun k => by rw [spec_l1Read.l0, if_neg (by omega), if_pos (by omega), wrap_id (-(acc : Int)) (by omega) (by omega)]) (Ev.bind G ?_)
      rw [itB_toList, Lib.toList_data]
      by_cases c2 : Lib.itoa (-(acc : Int)) = s.data.toList
      · rw [if_pos c2, if_pos c2]; exact Ev.now _
      · rw [if_neg c2, if_neg c2]; exact Ev.now _
    · have G := l1Num_ev (acc : Int) (by omega)
      rw [if_neg c]
      refine Ev.step (fun k => by rw [spec_l1Read.l0, if_neg (by omega), if_neg (by omega)]) (Ev.bind G ?_)
      rw [itB_toList, Lib.toList_data]
      by_cases c2 : Lib.itoa (acc : Int) = s.data.toList
      · rw [if_pos c2, if_pos c2]; exact Ev.now _
      · rw [if_neg c2, if_neg c2]; exact Ev.now _
  | succ d ih =>
    intro i acc hi ha
    have hlt : i < t.data.toList.length := by omega
    have ha6 := p6 i (by omega)
    have eb := bt_data t i hlt
    have hu := (t.data.toList[i]).toNat_lt
    rw [List.drop_eq_getElem_cons hlt, List.all_cons, fv_cons]
    by_cases c1 : 48 ≤ (t.data.toList[i]).toNat
    · by_cases c2 : (t.data.toList[i]).toNat ≤ 57
      · have eD : isD t.data.toList[i] = true := by unfold isD; rw [decide_eq_true c1, decide_eq_true c2]; rfl
        rw [eD, Bool.true_and]
        have G := ih (i + 1) (10 * acc + ((t.data.toList[i]).toNat - 48)) (by omega) (by rw [Nat.pow_succ]; omega)
        rw [show ((i + 1 : Nat) : Int) = (i : Int) + 1 from by omega] at G
        have ew : wrap64 ((wrap64 (10 * (acc : Int))) + ((((t.data.toList[i]).toNat : Nat) : Int) - 48) % 256) = ((10 * acc + ((t.data.toList[i]).toNat - 48) : Nat) : Int) := by
          rw [wrap_id (10 * (acc : Int)) (by omega) (by omega), wrap_id _ (by omega) (by omega)]
          omega
        exact Ev.step (fun k => by rw [spec_l1Read.l0, if_pos (by omega), if_pos (by omega), eb, if_neg (by omega), if_neg (by omega), ew, wrap_id ((i : Int) + 1) (by omega) (by omega)]) G
      · have eD : isD t.data.toList[i] = false := by unfold isD; rw [decide_eq_true c1, decide_eq_false c2]; rfl
        rw [eD, Bool.false_and, if_neg Bool.false_ne_true]
        exact Ev.step (f := fun _ => some (0, false)) (fun k => by rw [spec_l1Read.l0, if_pos (by omega), if_pos (by omega), eb, if_neg (by omega), if_pos (by omega)]) (Ev.now _)
    · have eD : isD t.data.toList[i] = false := by unfold isD; rw [decide_eq_false c1]; rfl
      rw [eD, Bool.false_and, if_neg Bool.false_ne_true]
      exact Ev.step (f := fun _ => some (0, false)) (fun k => by rw [spec_l1Read.l0, if_pos (by omega), if_pos (by omega), eb, if_pos (by omega)]) (Ev.now _)
def rdT (s : ByteArray) : ByteArray := if s.size > 1 ∧ s.data.toList.getD 0 0 = 45 then s.extract 1 s.size else s
def rdV (s : ByteArray) : Int × Bool := if 1 ≤ (rdT s).size ∧ (rdT s).size ≤ 6 then (if (rdT s).data.toList.all isD = true then rdFin s (rdT s) (fv 0 (rdT s).data.toList) else (0, false)) else (0, false)
theorem rd_j1 (s t : ByteArray) (ht : t.size ≤ 1000000) : Ev (fun k => spec_l1Read.j1 k s t) (if 1 ≤ t.size ∧ t.size ≤ 6 then (if t.data.toList.all isD = true then rdFin s t (fv 0 t.data.toList) else (0, false)) else (0, false)) := by
  by_cases c : 1 ≤ t.size ∧ t.size ≤ 6
  · rw [if_pos c]
    have er : rng (t.size : Int) 1 6 = true := (rng_iff _ _ _).2 (by omega)
    have hsz := Lib.size_eq t
    have G := rd_l0 s t c.2 t.data.toList.length 0 0 (by omega) (by decide)
    rw [List.drop_zero] at G
    exact Ev.step (fun k => by rw [spec_l1Read.j1, spec_l1In.eq, er, Option.bind_some, if_pos rfl]; rfl) G
  · rw [if_neg c]
    have er : rng (t.size : Int) 1 6 = false := by
      cases h : rng (t.size : Int) 1 6 with
      | false => rfl
      | true => exact absurd ((rng_iff _ _ _).1 h) (by omega)
    exact Ev.step (f := fun _ => some (0, false)) (fun k => by rw [spec_l1Read.j1, spec_l1In.eq, er, Option.bind_some, if_neg Bool.false_ne_true]) (Ev.now _)
theorem rd_ev (s : ByteArray) (hs : s.size ≤ 1000000) : Ev (fun k => spec_ParseInt.f k s) (rdV s) := by
  have key : Ev (fun k => spec_l1Read.f k s) (rdV s) := by
    have hsz := Lib.size_eq s
    unfold spec_l1Read.f rdV
    by_cases c : s.size > 1
    · simp only [if_pos (show (s.size : Int) > 1 by omega), if_pos (show 0 < (s.size : Int) by omega)]
      have e0 : bt s 0 = ((s.data.toList[0]'(by omega)).toNat : Int) := bt_data s 0 (by omega)
      have eg : s.data.toList.getD 0 0 = s.data.toList[0]'(by omega) := by rw [List.getD_eq_getElem?_getD, List.getElem?_eq_getElem (by omega)]; rfl
      by_cases c2 : s.data.toList.getD 0 0 = 45
      · have eT : rdT s = s.extract 1 s.size := by unfold rdT; rw [if_pos ⟨c, c2⟩]
        have eb : (bt s 0 == 45) = true := by
          rw [beq_iff_eq, e0, ← eg, c2]
          rfl
        have hz : (s.extract 1 s.size).size ≤ 1000000 := by rw [ByteArray.size_extract]; omega
        rw [eT]
        exact Ev.step (fun k => by rw [spec_l1Read.j0, eb, if_pos rfl, if_pos (by omega)]) (rd_j1 s (s.extract 1 s.size) hz)
      · have eT : rdT s = s := by unfold rdT; rw [if_neg (fun h => c2 h.2)]
        have eb : (bt s 0 == 45) = false := by
          rw [beq_eq_false_iff_ne]
          intro h
          rw [e0, ← eg] at h
          have h45 : (45 : UInt8).toNat = 45 := rfl
          exact c2 (UInt8.toNat_inj.1 (by omega))
        rw [eT]
        exact Ev.step (fun k => by rw [spec_l1Read.j0, eb, if_neg Bool.false_ne_true]) (rd_j1 s s hs)
    · simp only [if_neg (show ¬ (s.size : Int) > 1 by omega)]
      have eT : rdT s = s := by unfold rdT; rw [if_neg (fun h => c h.1)]
      rw [eT]
      exact Ev.step (fun k => by rw [spec_l1Read.j0, if_neg Bool.false_ne_true]) (rd_j1 s s hs)
  unfold spec_ParseInt.f
  exact Ev.bind key (Ev.now _)
theorem isD_dd (u : Nat) : (Lib.decDigits u).all isD = true := List.all_eq_true.2 (fun b hb => by
  have h := dd_digit u b hb
  unfold dig at h
  unfold isD
  rw [decide_eq_true h.1, decide_eq_true h.2]
  rfl)
theorem ext1 (s : ByteArray) : (s.extract 1 s.size).data.toList = s.data.toList.drop 1 := by
  rw [ByteArray.data_extract, Array.toList_extract, List.extract_eq_take_drop]
  exact List.take_of_length_le (by rw [List.length_drop, Lib.size_eq]; exact Nat.le_refl _)
theorem rdV_itoa (n : Int) (h : -999999 ≤ n ∧ n ≤ 999999) : rdV (itB n) = (n, true) := by
  have hd := itB_data n
  have hz := itB_size n
  by_cases hn : n < 0
  · have hl := dd_len 5 n.natAbs (by omega)
    rw [itoa_neg' n hn] at hd hz
    rw [List.length_cons] at hz
    have eT : rdT (itB n) = (itB n).extract 1 (itB n).size := by
      unfold rdT
      rw [if_pos ⟨by omega, by rw [hd]; rfl⟩]
    have e1 := ext1 (itB n)
    rw [hd, List.drop_one, List.tail_cons, ← eT] at e1
    have e2 : (rdT (itB n)).size = (Lib.decDigits n.natAbs).length := by rw [Lib.size_eq, e1]
    unfold rdV rdFin
    rw [e1, fv_dd, isD_dd, if_pos (by omega), if_pos rfl, if_pos (by omega), show -((n.natAbs : Nat) : Int) = n by omega, itB_data, if_pos rfl]
  · have hl := dd_len 5 n.toNat (by omega)
    rw [itoa_pos n (by omega)] at hd hz
    obtain ⟨c, r, e, hc⟩ := dd_cons n.toNat
    have eT : rdT (itB n) = itB n := by
      unfold rdT
      rw [if_neg]
      rintro ⟨_, g⟩
      rw [hd, e] at g
      have g2 : c = 45 := g
      unfold dig at hc
      have h45 : (45 : UInt8).toNat = 45 := rfl
      rw [g2] at hc
      omega
    unfold rdV rdFin
    rw [eT, hd, fv_dd, isD_dd, if_pos (by omega), if_pos rfl, if_neg (by omega), itoa_pos _ (by omega), Int.toNat_natCast, if_pos rfl]
    congr 1
    omega
theorem parseV_itoa (n : Int) (h : -999999 ≤ n ∧ n ≤ 999999) : parseV (itB n) = (n, true) := by
  have er : rng n (-999999) 999999 = true := (rng_iff _ _ _).2 h
  unfold parseV
  rw [itB_data, atoi_itoa n h]
  dsimp only
  rw [if_pos er]
  exact if_pos rfl
def numL : List ByteArray := [(⟨#[]⟩ : ByteArray), (⟨#[45]⟩ : ByteArray), (⟨#[45, 48]⟩ : ByteArray), (⟨#[48, 48]⟩ : ByteArray), (⟨#[48, 49]⟩ : ByteArray), (⟨#[45, 45, 49]⟩ : ByteArray), (⟨#[49, 120]⟩ : ByteArray), (⟨#[57, 57, 57, 57, 57, 57]⟩ : ByteArray), (⟨#[49, 48, 48, 48, 48, 48, 48]⟩ : ByteArray), (⟨#[45, 57, 57, 57, 57, 57, 57]⟩ : ByteArray), (⟨#[49, 56, 52, 52, 54, 55, 52, 52, 48, 55, 51, 55, 48, 57, 53, 53, 49, 54, 49, 55]⟩ : ByteArray)]
def parseW (s : ByteArray) : Int × Bool := match Lib.atoiAll s.data.toList with
  | .ok n => if rng n (-999999) 999999 = true then (if Lib.itoa n = s.data.toList then (n, true) else (0, false)) else (0, false)
  | _ => (0, false)
theorem parseW_eq (s : ByteArray) : parseV s = parseW s := by
  unfold parseV parseW
  rcases Lib.atoiAll s.data.toList with n | _ | _
  · dsimp only; rw [Lib.toList_data, Lib.toList_data]
  · rfl
  · rfl
theorem num_same : ∀ s ∈ numL, parseW s = rdV s := by decide +kernel
theorem num_size : ∀ s ∈ numL, s.size ≤ 20 := by decide +kernel
def stp (h : Nat) (b : UInt8) : Nat := (41 * h + b.toNat + 1) % 999979
theorem stp_eq (h : Nat) (b : UInt8) : stp h b = (41 * h + b.toNat + 1) % 999979 := by unfold stp; exact Eq.refl _
attribute [irreducible] stp
theorem stp_lt (h : Nat) (b : UInt8) : stp h b < 999979 := by rw [stp_eq]; omega
theorem stp_injh (h h' : Nat) (b : UInt8) (h0 : h < 999979) (h1 : h' < 999979) (e : stp h b = stp h' b) : h = h' := by
  rw [stp_eq, stp_eq] at e
  omega
theorem stp_injb (h : Nat) (b b' : UInt8) (e : stp h b = stp h b') : b = b' := by
  rw [stp_eq, stp_eq] at e
  have u := b.toNat_lt
  have v := b'.toNat_lt
  exact UInt8.toNat_inj.1 (by omega)
theorem stp_int (h : Nat) (b : UInt8) (hh : h < 999979) : Int.tmod (wrap64 ((wrap64 ((wrap64 (41 * (h : Int))) + (wrap64 ((b.toNat : Nat) : Int)))) + 1)) 999979 = ((stp h b : Nat) : Int) := by
  have u := b.toNat_lt
  rw [wrap_id (41 * (h : Int)) (by omega) (by omega), wrap_id ((b.toNat : Nat) : Int) (by omega) (by omega), wrap_id (41 * (h : Int) + ((b.toNat : Nat) : Int)) (by omega) (by omega), wrap_id (41 * (h : Int) + ((b.toNat : Nat) : Int) + 1) (by omega) (by omega), Int.tmod_eq_emod_of_nonneg (by omega), stp_eq]
  omega
def sumL : Nat → List UInt8 → Nat
  | h, [] => h
  | h, b :: l => sumL (stp h b) l
theorem sumL_nil (h : Nat) : sumL h [] = h := by rw [sumL]
theorem sumL_cons (h : Nat) (b : UInt8) (l : List UInt8) : sumL h (b :: l) = sumL (stp h b) l := by rw [sumL]
theorem sumL_lt (l : List UInt8) : ∀ h, h < 999979 → sumL h l < 999979 := by
  induction l with
  | nil => intro h hh; rw [sumL_nil]; exact hh
  | cons b l ih => intro h _; rw [sumL_cons]; exact ih _ (stp_lt h b)
theorem sumL_inj (l : List UInt8) : ∀ h h', h < 999979 → h' < 999979 → sumL h l = sumL h' l → h = h' := by
  induction l with
  | nil => intro h h' _ _ e; rw [sumL_nil, sumL_nil] at e; exact e
  | cons b l ih => intro h h' h0 h1 e; rw [sumL_cons, sumL_cons] at e; exact stp_injh h h' b h0 h1 (ih _ _ (stp_lt h b) (stp_lt h' b) e)
theorem sum_one (t : List UInt8) : ∀ (x : List UInt8) (k h : Nat), h < 999979 → t.length = x.length → (∀ i, i ≠ k → t[i]? = x[i]?) → sumL h t = sumL h x → t[k]? = x[k]? := by
  induction t with
  | nil =>
    intro x k h h0 hl _ _
    cases x with
    | nil => rfl
    | cons c x => rw [List.length_nil, List.length_cons] at hl; omega
  | cons b t ih =>
    intro x k h h0 hl hi e
    cases x with
    | nil => rw [List.length_nil, List.length_cons] at hl; omega
    | cons c x =>
      rw [sumL_cons, sumL_cons] at e
      rw [List.length_cons, List.length_cons] at hl
      cases k with
      | zero =>
        have et : t = x := List.ext_getElem? (fun i => by
          have := hi (i + 1) (by omega)
          rw [List.getElem?_cons_succ, List.getElem?_cons_succ] at this
          exact this)
        rw [et] at e
        have := stp_injb h b c (sumL_inj x _ _ (stp_lt h b) (stp_lt h c) e)
        rw [List.getElem?_cons_zero, List.getElem?_cons_zero, this]
      | succ k =>
        have e0 := hi 0 (by omega)
        rw [List.getElem?_cons_zero, List.getElem?_cons_zero] at e0
        have e1 : b = c := Option.some.inj e0
        rw [e1] at e
        rw [List.getElem?_cons_succ, List.getElem?_cons_succ]
        refine ih x k (stp h c) (stp_lt h c) (by omega) (fun i hk => ?_) e
        have := hi (i + 1) (by omega)
        rw [List.getElem?_cons_succ, List.getElem?_cons_succ] at this
        exact this
theorem implSum_l0 (s : ByteArray) (hs : s.size ≤ 5000) : ∀ d i h : Nat, i + d = s.data.toList.length → h < 999979 → Ev (fun k => impl_Checksum.l0 k s (h : Int) (s.size : Int) (i : Int)) (((sumL h (s.data.toList.drop i) : Nat) : Int), true) := by
  have hsz := Lib.size_eq s
  intro d
  induction d with
  | zero =>
    intro i h hi hh
    rw [List.drop_eq_nil_of_le (by omega), sumL_nil]
    exact Ev.step (f := fun _ => some ((h : Int), true)) (fun k => by rw [impl_Checksum.l0, if_neg (by omega)]) (Ev.now _)
  | succ d ih =>
    intro i h hi hh
    have hlt : i < s.data.toList.length := by omega
    have eb := bt_data s i hlt
    have G := ih (i + 1) (stp h s.data.toList[i]) (by omega) (stp_lt _ _)
    rw [show ((i + 1 : Nat) : Int) = (i : Int) + 1 from by omega] at G
    rw [List.drop_eq_getElem_cons hlt, sumL_cons]
    exact Ev.step (fun k => by rw [impl_Checksum.l0, if_pos (by omega), if_pos (by omega), if_pos (by omega), eb, stp_int h _ hh, wrap_id ((i : Int) + 1) (by omega) (by omega)]) G
theorem specSum_l0 (s : ByteArray) (hs : s.size ≤ 5000) : ∀ d i h : Nat, i + d = s.data.toList.length → h < 999979 → Ev (fun k => spec_l1Sum.l0 k s (h : Int) (i : Int)) (((sumL h (s.data.toList.drop i) : Nat) : Int)) := by
  have hsz := Lib.size_eq s
  intro d
  induction d with
  | zero =>
    intro i h hi hh
    rw [List.drop_eq_nil_of_le (by omega), sumL_nil]
    exact Ev.step (f := fun _ => some (h : Int)) (fun k => by rw [spec_l1Sum.l0, if_neg (by omega)]) (Ev.now _)
  | succ d ih =>
    intro i h hi hh
    have hlt : i < s.data.toList.length := by omega
    have eb := bt_data s i hlt
    have G := ih (i + 1) (stp h s.data.toList[i]) (by omega) (stp_lt _ _)
    rw [show ((i + 1 : Nat) : Int) = (i : Int) + 1 from by omega] at G
    rw [List.drop_eq_getElem_cons hlt, sumL_cons]
    exact Ev.step (fun k => by rw [spec_l1Sum.l0, if_pos (by omega), if_pos (by omega), eb, stp_int h _ hh, wrap_id ((i : Int) + 1) (by omega) (by omega)]) G
def sumB (s : ByteArray) : Nat := sumL 7 s.data.toList
theorem sumB_lt (s : ByteArray) : sumB s < 999979 := by unfold sumB; exact sumL_lt _ _ (by omega)
theorem implSum_ev (s : ByteArray) (hs : s.size ≤ 4000) : Ev (fun k => impl_Checksum.f k s) (((sumB s : Nat) : Int), true) := by
  unfold impl_Checksum.f
  simp only [if_neg (show ¬ (s.size : Int) > 4000 by omega)]
  exact implSum_l0 s (by omega) s.data.toList.length 0 7 (by omega) (by omega)
theorem specSum_ev (s : ByteArray) (hs : s.size ≤ 5000) : Ev (fun k => spec_l1Sum.f k s) ((sumB s : Nat) : Int) := by
  unfold spec_l1Sum.f
  exact specSum_l0 s hs s.data.toList.length 0 7 (by omega) (by omega)
def sealB (s : ByteArray) : ByteArray := (s ++ (⟨#[35]⟩ : ByteArray)) ++ itB ((sumB s : Nat) : Int)
theorem seal_data (s : ByteArray) : (sealB s).data.toList = s.data.toList ++ 35 :: Lib.itoa ((sumB s : Nat) : Int) := by
  unfold sealB
  rw [dapp, dapp, itB_data, List.append_assoc]
  rfl
theorem seal_size (s : ByteArray) : (sealB s).size = s.size + 1 + (itB ((sumB s : Nat) : Int)).size := by
  unfold sealB
  rw [ByteArray.size_append, ByteArray.size_append]
  rfl
theorem seal_ev (s : ByteArray) (hs : s.size ≤ 5000) : Ev (fun k => spec_l1Seal.f k s) (sealB s) := by
  have hlt := sumB_lt s
  have hl := itB_len ((sumB s : Nat) : Int) (by omega)
  have h1 : (s ++ (⟨#[35]⟩ : ByteArray)).size = s.size + 1 := by rw [ByteArray.size_append]; rfl
  unfold spec_l1Seal.f
  simp only [if_pos (show s.size + 1 ≤ 9223372036854775807 by omega)]
  refine Ev.bind (specSum_ev s hs) (Ev.bind (l1Num_ev _ (by omega)) ?_)
  simp only [h1, if_pos (show s.size + 1 + (itB ((sumB s : Nat) : Int)).size ≤ 9223372036854775807 by omega)]
  exact Ev.now _
def appV (s : ByteArray) : ByteArray × Bool := if s.size ≤ 4000 ∧ s.data.toList.contains 35 = false ∧ (sealB s).size ≤ 4000 then (sealB s, true) else (⟨#[]⟩, false)
theorem appV_pos (s : ByteArray) (h1 : s.size ≤ 4000) (h2 : s.data.toList.contains 35 = false) (h3 : (sealB s).size ≤ 4000) : appV s = (sealB s, true) := by
  unfold appV
  rw [if_pos ⟨h1, h2, h3⟩]
theorem appV_neg (s : ByteArray) (h : ¬ (s.size ≤ 4000 ∧ s.data.toList.contains 35 = false ∧ (sealB s).size ≤ 4000)) : appV s = (⟨#[]⟩, false) := by
  unfold appV
  rw [if_neg h]
theorem dec_ev (n : Int) (h : -999999 ≤ n ∧ n ≤ 999999) : impl_decimal.f n = some (itB n) := by
  unfold impl_decimal.f
  rw [if_pos (by omega)]
  rfl
theorem has_eq (s : ByteArray) : strings_Contains.f s ⟨#[35]⟩ = some (s.data.toList.contains 35) := rfl
theorem implApp_ev (s : ByteArray) (hs : s.size ≤ 5000) : Ev (fun k => impl_AppendChecksum.f k s) (appV s) := by
  have hlt := sumB_lt s
  have hl := itB_len ((sumB s : Nat) : Int) (by omega)
  have hss := seal_size s
  have h1 : (s ++ (⟨#[35]⟩ : ByteArray)).size = s.size + 1 := by rw [ByteArray.size_append]; rfl
  by_cases h4 : s.size ≤ 4000
  · unfold impl_AppendChecksum.f
    refine Ev.bind (implSum_ev s h4) ?_
    simp only [if_pos (show s.size + 1 ≤ 9223372036854775807 by omega), dec_ev _ (show -999999 ≤ ((sumB s : Nat) : Int) ∧ ((sumB s : Nat) : Int) ≤ 999999 by omega), Option.bind_some, h1, if_pos (show s.size + 1 + (itB ((sumB s : Nat) : Int)).size ≤ 9223372036854775807 by omega), if_true, has_eq]
    cases hh : s.data.toList.contains 35 with
    | true =>
      rw [appV_neg s (fun h => by rw [hh] at h; exact absurd h.2.1 (by decide))]
      simp only [if_true]
      exact Ev.now _
    | false =>
      simp only [Bool.false_eq_true, if_false]
      rw [show (s ++ (⟨#[35]⟩ : ByteArray)) ++ itB ((sumB s : Nat) : Int) = sealB s from rfl]
      by_cases h5 : (sealB s).size ≤ 4000
      · rw [appV_pos s h4 hh h5]
        simp only [if_neg (show ¬ ((sealB s).size : Int) > 4000 by omega)]
        exact Ev.now _
      · rw [appV_neg s (fun h => h5 h.2.2)]
        simp only [if_pos (show ((sealB s).size : Int) > 4000 by omega)]
        exact Ev.now _
  · have e0 : ∀ k, impl_Checksum.f k s = some (0, false) := fun k => by unfold impl_Checksum.f; rw [if_pos (by omega)]
    have hl0 := itB_len 0 (by omega)
    unfold impl_AppendChecksum.f
    simp only [e0, Option.bind_some, if_pos (show s.size + 1 ≤ 9223372036854775807 by omega), dec_ev 0 (by omega), h1, if_pos (show s.size + 1 + (itB 0).size ≤ 9223372036854775807 by omega), Bool.false_eq_true, if_false]
    rw [appV_neg s (fun h => h4 h.1)]
    exact Ev.now _
theorem specApp_ev (s : ByteArray) (hs : s.size ≤ 5000) : Ev (fun k => spec_AppendChecksum.f k s) (appV s) := by
  unfold spec_AppendChecksum.f
  by_cases h4 : s.size ≤ 4000
  · simp only [if_neg (show ¬ (s.size : Int) > 4000 by omega)]
    have hst := stands_ev s 35 (by omega)
    refine Ev.bind hst ?_
    cases hh : s.data.toList.contains 35 with
    | true =>
      rw [appV_neg s (fun h => by rw [hh] at h; exact absurd h.2.1 (by decide))]
      simp only [if_true]
      exact Ev.now _
    | false =>
      simp only [Bool.false_eq_true, if_false]
      refine Ev.bind (seal_ev s hs) ?_
      by_cases h5 : (sealB s).size ≤ 4000
      · rw [appV_pos s h4 hh h5]
        simp only [if_neg (show ¬ ((sealB s).size : Int) > 4000 by omega)]
        exact Ev.bind (seal_ev s hs) (Ev.now _)
      · rw [appV_neg s (fun h => h5 h.2.2)]
        simp only [if_pos (show ((sealB s).size : Int) > 4000 by omega)]
        exact Ev.now _
  · simp only [if_pos (show (s.size : Int) > 4000 by omega)]
    rw [appV_neg s (fun h => h4 h.1)]
    exact Ev.now _
theorem index_at (B : List UInt8) (X : List UInt8) (h : ∀ b ∈ X, b ≠ 35) : Lib.index (X ++ 35 :: B) [35] = (X.length : Int) := by
  induction X with
  | nil => rfl
  | cons c X ih =>
    have hc := h c (by simp)
    have e := ih (fun b hb => h b (List.mem_cons_of_mem _ hb))
    rw [List.cons_append, Lib.index, if_neg (by simp [List.isPrefixOf]; exact fun h => hc h.symm), e, if_neg (by simp), List.length_cons]
    omega
theorem cut_at (X B : List UInt8) (h : ∀ b ∈ X, b ≠ 35) : (Lib.cut (X ++ 35 :: B) [35]).1 = X := by
  unfold Lib.cut
  rw [index_at B X h, if_pos (by omega), Int.toNat_natCast]
  exact List.take_left' rfl
theorem cut_len (s p : List UInt8) : (Lib.cut s p).1.length ≤ s.length := by
  unfold Lib.cut
  by_cases h : 0 ≤ Lib.index s p
  · rw [if_pos h]
    exact List.length_take_le' _ _
  · rw [if_neg h]
    exact Nat.le_refl _
def cutT (s : ByteArray) : ByteArray := (cutB s ⟨#[35]⟩).1
theorem cutT_data (s : ByteArray) : (cutT s).data.toList = (Lib.cut s.data.toList [35]).1 := by
  unfold cutT cutB
  simp
theorem cutT_size (s : ByteArray) : (cutT s).size ≤ s.size := by
  rw [Lib.size_eq, Lib.size_eq, cutT_data]
  exact cut_len _ _
def verV (s : ByteArray) : ByteArray × Bool := if (appV (cutT s)).2 = true ∧ (appV (cutT s)).1.toList = s.toList then (cutT s, true) else (⟨#[]⟩, false)
theorem ver_ev (s : ByteArray) (hs : s.size ≤ 5000) : Ev (fun k => impl_VerifyChecksum.f k s) (verV s) := by
  have hc := cutT_size s
  have e : strings_Cut.f s (⟨#[35]⟩ : ByteArray) = some (cutB s ⟨#[35]⟩) := by
    unfold strings_Cut.f
    rw [if_pos ⟨rfl, by omega⟩]
  unfold impl_VerifyChecksum.f
  simp only [e, Option.bind_some]
  rw [show (cutB s ⟨#[35]⟩).1 = cutT s from rfl]
  refine Ev.bind (implApp_ev (cutT s) (by omega)) ?_
  by_cases h1 : (appV (cutT s)).2 = true
  · by_cases h2 : (appV (cutT s)).1.toList = s.toList
    · have ev : verV s = (cutT s, true) := by unfold verV; rw [if_pos ⟨h1, h2⟩]
      rw [ev]
      simp only [if_pos h1, if_pos h2]
      exact Ev.now _
    · have ev : verV s = (⟨#[]⟩, false) := by unfold verV; rw [if_neg (fun h => h2 h.2)]
      rw [ev]
      simp only [if_pos h1, if_neg h2]
      exact Ev.now _
  · have ev : verV s = (⟨#[]⟩, false) := by unfold verV; rw [if_neg (fun h => h1 h.1)]
    rw [ev]
    simp only [if_neg h1]
    exact Ev.now _
theorem no35 (X : List UInt8) (h : X.contains 35 = false) : ∀ b ∈ X, b ≠ 35 := by
  intro b hb e
  rw [e] at hb
  rw [List.contains_iff_mem.2 hb] at h
  cases h
theorem ver_seal (x : ByteArray) (h1 : x.size ≤ 4000) (h2 : x.data.toList.contains 35 = false) (h3 : (sealB x).size ≤ 4000) : verV (sealB x) = (x, true) := by
  have e : cutT (sealB x) = x := by
    apply ba_ext
    rw [cutT_data, seal_data]
    exact cut_at _ _ (no35 _ h2)
  unfold verV
  rw [e, appV_pos x h1 h2 h3, if_pos ⟨rfl, rfl⟩]
theorem at35 (X B : List UInt8) (hX : ∀ b ∈ X, b ≠ 35) (hB : ∀ b ∈ B, b ≠ 35) (i : Nat) : (X ++ 35 :: B)[i]? = some 35 ↔ i = X.length := by
  constructor
  · intro h
    rcases Nat.lt_trichotomy i X.length with c | c | c
    · rw [List.getElem?_append_left c] at h
      exact absurd rfl (hX 35 (List.mem_of_getElem? h))
    · exact c
    · rw [List.getElem?_append_right (by omega), show i - X.length = (i - X.length - 1) + 1 by omega, List.getElem?_cons_succ] at h
      exact absurd rfl (hB 35 (List.mem_of_getElem? h))
  · rintro rfl
    rw [List.getElem?_append_right (Nat.le_refl _), Nat.sub_self, List.getElem?_cons_zero]
theorem one_off (t x : List UInt8) (k : Nat) (ht : ∀ b ∈ t, b ≠ 35) (hx : ∀ b ∈ x, b ≠ 35)
    (hi : ∀ i, i ≠ k → (t ++ 35 :: Lib.itoa ((sumL 7 t : Nat) : Int))[i]? = (x ++ 35 :: Lib.itoa ((sumL 7 x : Nat) : Int))[i]?) :
    (t ++ 35 :: Lib.itoa ((sumL 7 t : Nat) : Int))[k]? = (x ++ 35 :: Lib.itoa ((sumL 7 x : Nat) : Int))[k]? := by
  have a1 := at35 t (Lib.itoa ((sumL 7 t : Nat) : Int)) ht (itoa_no35 _ (by omega))
  have a2 := at35 x (Lib.itoa ((sumL 7 x : Nat) : Int)) hx (itoa_no35 _ (by omega))
  have hl : t.length = x.length := by
    by_cases c : t.length = k
    · by_cases c2 : x.length = k
      · omega
      · have := hi x.length c2
        rw [(a2 x.length).2 rfl] at this
        exact ((a1 x.length).1 this).symm
    · have := hi t.length c
      rw [(a1 t.length).2 rfl] at this
      exact (a2 t.length).1 this.symm
  have hT : ∀ i, i < t.length → (t ++ 35 :: Lib.itoa ((sumL 7 t : Nat) : Int))[i]? = t[i]? := fun i h => List.getElem?_append_left h
  have hX : ∀ i, i < x.length → (x ++ 35 :: Lib.itoa ((sumL 7 x : Nat) : Int))[i]? = x[i]? := fun i h => List.getElem?_append_left h
  have heq : ∀ i, i ≠ k → t[i]? = x[i]? := fun i hk => by
    by_cases c : i < t.length
    · rw [← hT i c, ← hX i (by omega)]
      exact hi i hk
    · rw [List.getElem?_eq_none (by omega), List.getElem?_eq_none (by omega)]
  by_cases ck : k < t.length
  · have es : Lib.itoa ((sumL 7 t : Nat) : Int) = Lib.itoa ((sumL 7 x : Nat) : Int) := List.ext_getElem? (fun i => by
      have := hi (t.length + 1 + i) (by omega)
      rw [List.getElem?_append_right (by omega), List.getElem?_append_right (by omega), show t.length + 1 + i - t.length = i + 1 by omega, show t.length + 1 + i - x.length = i + 1 by omega, List.getElem?_cons_succ, List.getElem?_cons_succ] at this
      exact this)
    have e2 := itB_inj _ _ (by omega) (by omega) es
    have e3 : sumL 7 t = sumL 7 x := by omega
    rw [hT k ck, hX k (by omega)]
    exact sum_one t x k 7 (by omega) hl heq e3
  · have : t = x := List.ext_getElem? (fun i => by
      by_cases c : i = k
      · rw [c, List.getElem?_eq_none (by omega), List.getElem?_eq_none (by omega)]
      · exact heq i c)
    rw [this]
theorem xor_self_ne (a b : UInt8) (h : a ^^^ b = a) : b = 0 := by
  have : a ^^^ (a ^^^ b) = a ^^^ a := by rw [h]
  rw [← UInt8.xor_assoc, UInt8.xor_self, UInt8.zero_xor] at this
  exact this
theorem flip_data (s : ByteArray) (k v : Int) (hk : k.toNat < s.data.toList.length) : (flipB s k v).data.toList = s.data.toList.set k.toNat (s.data.toList[k.toNat] ^^^ UInt8.ofNat v.toNat) := by
  have hk' : k.toNat < s.data.size := by simpa using hk
  unfold flipB
  dsimp only
  rw [Array.set!_eq_setIfInBounds, Array.toList_setIfInBounds]
  congr 2
  rw [Array.getD_eq_getD_getElem?, Array.getElem?_eq_getElem hk', Option.getD_some, ← Array.getElem_toList]
theorem ver_flip (x : ByteArray) (k v : Int) (hx : x.data.toList.contains 35 = false) (hk : k.toNat < (sealB x).data.toList.length) (hv : 1 ≤ v ∧ v ≤ 255) : (verV (flipB (sealB x) k v)).2 = false := by
  have hd := flip_data (sealB x) k v hk
  unfold verV
  by_cases h : (appV (cutT (flipB (sealB x) k v))).2 = true ∧ (appV (cutT (flipB (sealB x) k v))).1.toList = (flipB (sealB x) k v).toList
  · exfalso
    obtain ⟨t, ht⟩ : ∃ t, t = cutT (flipB (sealB x) k v) := ⟨_, rfl⟩
    rw [← ht] at h
    obtain ⟨h1, h2⟩ := h
    by_cases g : t.size ≤ 4000 ∧ t.data.toList.contains 35 = false ∧ (sealB t).size ≤ 4000
    · rw [appV_pos t g.1 g.2.1 g.2.2] at h2
      dsimp only at h2
      rw [Lib.toList_data, Lib.toList_data, hd] at h2
      have hO := one_off t.data.toList x.data.toList k.toNat (no35 _ g.2.1) (no35 _ hx)
      have st := seal_data t
      have sx := seal_data x
      unfold sumB at st sx
      rw [← st, ← sx, h2] at hO
      have hO2 := hO (fun i hi => List.getElem?_set_ne (fun e => hi e.symm))
      rw [List.getElem?_set_self hk, List.getElem?_eq_getElem hk] at hO2
      have z := xor_self_ne _ _ (Option.some.inj hO2)
      have z2 : (UInt8.ofNat v.toNat).toNat = 0 := by rw [z]; rfl
      rw [ofNat_small _ (by omega)] at z2
      omega
    · rw [appV_neg t g] at h1
      cases h1
  · rw [if_neg h]
def anyL : List ByteArray := [(⟨#[]⟩ : ByteArray), (⟨#[97]⟩ : ByteArray), (⟨#[97, 44, 98]⟩ : ByteArray), (⟨#[115, 111, 109, 101, 32, 119, 111, 114, 100, 115]⟩ : ByteArray), (⟨#[120, 35, 121]⟩ : ByteArray), (⟨#[45, 49, 50]⟩ : ByteArray), (⟨#[0, 255]⟩ : ByteArray), (⟨#[44, 44]⟩ : ByteArray), (⟨#[48]⟩ : ByteArray)]
theorem any1_ok (code : List Int) (hc : codeOk code) (at_ seed : Int) (h0 : 0 ≤ at_) (h1 : at_ ≤ 900000) : ∃ x a s, spec_l1Cur_any1.f code at_ seed = some (x, a, s) ∧ x ∈ anyL ∧ at_ ≤ a ∧ a ≤ at_ + 2 := by
  unfold spec_l1Cur_any1.f
  obtain ⟨x, a, s, e, m, a0, a1⟩ := of_ok code hc at_ seed anyL (by decide) h0 h1
  unfold anyL at e
  rw [e, Option.bind_some]
  exact ⟨x, a, s, rfl, m, a0, a1⟩
theorem any_size : ∀ x ∈ anyL, x.size ≤ 10 := by decide
theorem drawFmt (code : List Int) (hc : codeOk code) : ∃ n, spec_DrawFormatInt.f code = some n ∧ -1000000 ≤ n ∧ n ≤ 1000000 := by
  unfold spec_DrawFormatInt.f
  obtain ⟨x, a, s, e, x0, x1, a0, a1⟩ := pick_ok code hc 0 0 1000 (by omega) (by omega) (by omega)
  obtain ⟨y, b, t, e2, m, _, _⟩ := among_ok code hc a s [0, 1, (-1), 10, 999999, (-999999), 1000000, (-1000000), wrap64 (x - 500)] (by simp) (by omega) (by omega)
  rw [e, Option.bind_some]
  dsimp only
  rw [e2, Option.bind_some]
  refine ⟨y, rfl, ?_⟩
  rw [wrap_id (x - 500) (by omega) (by omega)] at m
  simp only [List.mem_cons, List.not_mem_nil, or_false] at m
  omega
theorem drawNum (code : List Int) (hc : codeOk code) : ∃ s, (s ∈ numL ∨ ∃ n : Int, -1000 ≤ n ∧ n ≤ 1000 ∧ s = itB n) ∧ Ev (fun k => spec_DrawParseInt.f k code) s := by
  obtain ⟨o, b, t, e, u, v⟩ := one_ok code hc 0 0 2 (by omega) (by omega) (by omega)
  unfold spec_DrawParseInt.f
  simp only [e, Option.bind_some]
  cases o with
  | true =>
    obtain ⟨x, a, s, e2, m, a0, a1⟩ := of_ok code hc b t numL (by decide) (by omega) (by omega)
    refine ⟨x, .inl m, ?_⟩
    unfold numL at e2
    simp only [if_true, e2, Option.bind_some]
    exact Ev.now _
  | false =>
    obtain ⟨x, a, s, e2, x0, x1, a0, a1⟩ := pick_ok code hc b t 2000 (by omega) (by omega) (by omega)
    have w : wrap64 (x - 1000) = x - 1000 := wrap_id _ (by omega) (by omega)
    refine ⟨itB (x - 1000), .inr ⟨x - 1000, by omega, by omega, rfl⟩, ?_⟩
    simp only [Bool.false_eq_true, if_false, e2, Option.bind_some, w]
    exact Ev.bind (l1Num_ev _ (by omega)) (Ev.now _)
theorem drawSeal (code : List Int) (hc : codeOk code) : ∃ x, spec_DrawAppendChecksum.f code = some x ∧ x.size ≤ 4000 := by
  obtain ⟨o, b, t, e, u, v⟩ := one_ok code hc 0 0 20 (by omega) (by omega) (by omega)
  unfold spec_DrawAppendChecksum.f
  rw [e, Option.bind_some]
  dsimp only
  cases o with
  | true =>
    obtain ⟨y, a, s, e2, y0, y1, a0, a1⟩ := pick_ok code hc b t 10 (by omega) (by omega) (by omega)
    have w : wrap64 (3990 + y) = 3990 + y := wrap_id _ (by omega) (by omega)
    rw [if_pos rfl, e2, Option.bind_some]
    dsimp only
    rw [w, if_pos (by omega), if_pos (by omega)]
    refine ⟨_, rfl, ?_⟩
    rw [strOfNums_size, List.length_replicate]
    omega
  | false =>
    obtain ⟨x, a, s, e2, m, a0, a1⟩ := any1_ok code hc b t (by omega) (by omega)
    have := any_size x m
    rw [if_neg Bool.false_ne_true, e2, Option.bind_some]
    exact ⟨x, rfl, by omega⟩
def fmtV (n : Int) : ByteArray × Bool := if rng n (-999999) 999999 = true then (itB n, true) else (⟨#[]⟩, false)
theorem implFmt (n : Int) : impl_FormatInt.f n = some (fmtV n) := by
  unfold impl_FormatInt.f fmtV
  rw [in_eq, Option.bind_some]
  by_cases h : rng n (-999999) 999999 = true
  · rw [if_pos h, if_pos h, dec_ev n ((rng_iff _ _ _).1 h), Option.bind_some]
  · rw [if_neg h, if_neg h]
theorem specFmt (n : Int) : Ev (fun k => spec_FormatInt.f k n) (fmtV n) := by
  unfold spec_FormatInt.f fmtV
  simp only [l1In_eq, Option.bind_some]
  by_cases h : rng n (-999999) 999999 = true
  · have hn := (rng_iff _ _ _).1 h
    simp only [if_pos h]
    exact Ev.bind (l1Num_ev n (by omega)) (Ev.now _)
  · simp only [if_neg h]
    exact Ev.now _
theorem numBoth (s : ByteArray) (h : s ∈ numL ∨ ∃ n : Int, -1000 ≤ n ∧ n ≤ 1000 ∧ s = itB n) : s.size ≤ 20 ∧ parseV s = rdV s := by
  rcases h with h | ⟨n, n0, n1, rfl⟩
  · exact ⟨num_size s h, by rw [parseW_eq]; exact num_same s h⟩
  · have := itB_len n (by omega)
    exact ⟨by omega, by rw [parseV_itoa n (by omega), rdV_itoa n (by omega)]⟩
theorem vAt_ok (code : List Int) (hc : codeOk code) (i : Int) (h0 : 0 ≤ i) (h1 : i ≤ 1000) : ∃ v, laws_vAt.f code i = some v ∧ 0 ≤ v ∧ v ≤ 255 := by
  unfold laws_vAt.f
  have hl := hc.1
  have hb := hc.2 i
  by_cases c : i < (code.length : Int)
  · rw [if_pos c, if_pos h0]
    exact ⟨_, rfl, by rw [wrap_id _ (by omega) (by omega)]; exact hb⟩
  · rw [if_neg c, wrap_id (i * 7) (by omega) (by omega), wrap_id (i * 7 + (code.length : Int)) (by omega) (by omega), Int.tmod_eq_emod_of_nonneg (by omega)]
    exact ⟨_, rfl, by omega, by omega⟩
theorem sealed_j1 (code : List Int) (hc : codeOk code) (x : ByteArray) (hx : x.size ≤ 4000) : Ev (fun k => laws_FnStrings.j1 k code x (appV x).1 (appV x).2 false) true := by
  by_cases g : x.size ≤ 4000 ∧ x.data.toList.contains 35 = false ∧ (sealB x).size ≤ 4000
  · rw [appV_pos x g.1 g.2.1 g.2.2]
    obtain ⟨v9, e9, p0, p1⟩ := vAt_ok code hc 9 (by omega) (by omega)
    obtain ⟨v10, e10, r0, r1⟩ := vAt_ok code hc 10 (by omega) (by omega)
    have hz := seal_size x
    obtain ⟨L, hL⟩ : ∃ L, L = (sealB x).size := ⟨_, rfl⟩
    rw [← hL] at hz
    have q0 : 0 ≤ Int.tmod v9 (L : Int) ∧ Int.tmod v9 (L : Int) < (L : Int) := by
      rw [Int.tmod_eq_emod_of_nonneg p0]
      exact ⟨Int.emod_nonneg _ (by omega), Int.emod_lt_of_pos _ (by omega)⟩
    have t0 : 0 ≤ Int.tmod v10 255 ∧ Int.tmod v10 255 ≤ 254 := by rw [Int.tmod_eq_emod_of_nonneg r0]; omega
    obtain ⟨q, hq⟩ : ∃ q, q = Int.tmod v9 (L : Int) := ⟨_, rfl⟩
    obtain ⟨t, ht⟩ : ∃ t, t = Int.tmod v10 255 := ⟨_, rfl⟩
    rw [← hq] at q0
    rw [← ht] at t0
    have ew : (wrap64 (1 + t)) % 256 = 1 + t := by rw [wrap_id (1 + t) (by omega) (by omega)]; omega
    have hf := ver_flip x q (1 + t) g.2.1 (by rw [← Lib.size_eq, ← hL]; omega) (by omega)
    have fs := flipB_size (sealB x) q (1 + t)
    have ef : flipByte.f (sealB x) q (1 + t) = some (flipB (sealB x) q (1 + t)) := by
      unfold flipByte.f
      rw [if_pos ⟨by omega, by rw [← hL]; omega, by omega, by omega⟩]
    have V1 := ver_ev (sealB x) (by rw [← hL]; omega)
    have V2 := ver_ev (flipB (sealB x) q (1 + t)) (by rw [fs, ← hL]; omega)
    rw [ver_seal x g.1 g.2.1 g.2.2] at V1
    refine Ev.step (fun k => by rw [laws_FnStrings.j1, if_neg Bool.false_ne_true, if_pos rfl]) (Ev.bind V1 ?_)
    simp only [e9, e10, Option.bind_some, ← hL, if_neg (show ¬ (L : Int) = 0 by omega), ← hq, ← ht, ew, ef]
    refine Ev.bind V2 ?_
    simp only [if_true, hf]
    exact Ev.now _
  · rw [appV_neg x g]
    exact Ev.step (f := fun _ => some true) (fun k => by rw [laws_FnStrings.j1, if_neg Bool.false_ne_true, if_neg Bool.false_ne_true, Lib.toList_data]; rfl) (Ev.now _)
theorem FnStrings (l0 : List (Int)) (q_l0 : (l0.length ≤ maxLen ∧ ∀ q ∈ l0, (Lit.int .u8 q).wf = true)) : ∃ k, laws_FnStrings.f k l0 = some true := by
  by_cases hb : (l0.length : Int) > 65536
  · refine ⟨0, ?_⟩
    unfold laws_FnStrings.f laws_vBig.f
    rw [Option.bind_some, decide_eq_true hb, if_pos rfl]
  · have hc : codeOk l0 := codeOk_of l0 (by omega) q_l0.2
    have fin : Ev (fun k => laws_FnStrings.f k l0) true := by
      obtain ⟨n, d1, n0, n1⟩ := drawFmt l0 hc
      obtain ⟨s, hs, d2⟩ := drawNum l0 hc
      obtain ⟨x, d3, hx⟩ := drawSeal l0 hc
      obtain ⟨hz, hsame⟩ := numBoth s hs
      have ep : impl_ParseInt.f s = some (parseV s) := by unfold impl_ParseInt.f; rw [if_pos (by omega)]
      have sp := rd_ev s (by omega)
      have hj1 := sealed_j1 l0 hc x hx
      have hj0 : Ev (fun k => laws_FnStrings.j0 k l0 n (fmtV n).1 (fmtV n).2 x (appV x).1 (appV x).2 false) true := by
        by_cases h : rng n (-999999) 999999 = true
        · have hn := (rng_iff _ _ _).1 h
          have hl := itB_len n hn
          have ef : fmtV n = (itB n, true) := by unfold fmtV; rw [if_pos h]
          have ei : impl_ParseInt.f (itB n) = some (n, true) := by unfold impl_ParseInt.f; rw [if_pos (by omega), parseV_itoa n hn]
          rw [ef]
          exact Ev.step (fun k => by rw [laws_FnStrings.j0, if_neg Bool.false_ne_true, ei, Option.bind_some, if_pos rfl, if_pos rfl, show (n != n) = false from bne_self_eq_false n]) hj1
        · have ef : fmtV n = (⟨#[]⟩, false) := by unfold fmtV; rw [if_neg h]
          have ei : ∃ p, impl_ParseInt.f ⟨#[]⟩ = some p := by unfold impl_ParseInt.f; exact ⟨_, if_pos (by decide)⟩
          obtain ⟨p, ei⟩ := ei
          rw [ef]
          exact Ev.step (fun k => by rw [laws_FnStrings.j0, if_neg Bool.false_ne_true, ei, Option.bind_some, if_neg Bool.false_ne_true]) hj1
      unfold laws_FnStrings.f laws_vBig.f
      simp only [Option.bind_some, decide_eq_false hb, Bool.false_eq_true, if_false, d1, implFmt]
      refine Ev.bind (specFmt n) (Ev.bind d2 ?_)
      simp only [ep, Option.bind_some]
      refine Ev.bind sp ?_
      simp only [d3, Option.bind_some]
      refine Ev.bind (implApp_ev x (by omega)) (Ev.bind (specApp_ev x (by omega)) ?_)
      simp only [hsame, if_true, bne_self_eq_false, Bool.false_eq_true, if_false]
      exact hj0
    obtain ⟨K, hK⟩ := fin
    exact ⟨K, hK K (Nat.le_refl _)⟩
end Go.Proofs.YtlfjalobklnkcaaDoor.Pure
