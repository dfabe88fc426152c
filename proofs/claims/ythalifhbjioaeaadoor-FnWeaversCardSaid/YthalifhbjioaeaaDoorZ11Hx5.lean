-- by wip/pack.py of this repo
import Derived.Test.YthalifhbjioaeaaDoorZ11Hx0
import Derived.Test.YthalifhbjioaeaaDoorZ11Hx1
import Derived.Test.YthalifhbjioaeaaDoorZ11Hx2
import Derived.Test.YthalifhbjioaeaaDoorZ11Hx3
import Derived.Test.YthalifhbjioaeaaDoorZ11Hx4
import Derived.Test.YthalifhbjioaeaaDoorZ11WApart
import Derived.Test.YthalifhbjioaeaaDoorZ11WKept
import Derived.Test.YthalifhbjioaeaaDoorZ11WLast
import Derived.Test.YthalifhbjioaeaaDoorZ11WMore
import Derived.Test.YthalifhbjioaeaaDoorZ11WN
import Derived.Test.YthalifhbjioaeaaDoorZ11WWords
import Derived.Test.YthalifhbjioaeaaDoorZ11Short
namespace Go.Proofs.YthalifhbjioaeaaDoor.H
open Go.RowKit Go.Proofs.YthalifhbjioaeaaDoorW.PrintWords Go.Proofs.YthalifhbjioaeaaDoorW.PrintLast Go.Proofs.YthalifhbjioaeaaDoorW.PrintMore
attribute [local go_sem] max2_int min2_int max_two min_two max_three min_three max_four min_four
set_option maxHeartbeats 8000000
set_option maxRecDepth 100000
set_option linter.unusedVariables false
set_option linter.unusedSimpArgs false
attribute [local go_sem high] eqA26
theorem row_block_wv {w : World} {base g m cap : Nat} {ok : Nat → Prop} {xs : List S26} (h : Kd.R k26 26 w base ok (.slice (some ⟨g, 0, none⟩) m cap) xs) (hm : 0 < m) : ∃ cur : Array Value, w.heap[g]? = some (.cells cur 26 (0, 0)) ∧ cur.size = cap * 5 := by
 obtain ⟨hok, inner, ⟨Ab, Aa⟩, hr⟩ := h
 rcases Aa with ⟨hv, _⟩ | ⟨g', cap', cur, hv, hb, hh, hnc, hcm, hcs, ht⟩
 ·cases hv
 injection hv with ha hn hc; injection ha with ha; injection ha with hg; subst hg; subst hc
 exact ⟨cur, hh, hcs⟩
theorem info_size26 : (Tryd.prog.info? 26).map (·.size) = some 5 := by kernel_rfl
theorem R_beyond_wv {w : World} {base g m cap o : Nat} {ok : Nat → Prop} {xs : List S26} (h : Kd.R k26 26 w base ok (.slice (some ⟨g, 0, none⟩) m cap) xs) (vs : List Value) (ho : m * 5 ≤ o) (hl : o + vs.length ≤ cap * 5) :
  Kd.R k26 26 (w.setCells g o vs) base ok (.slice (some ⟨g, 0, none⟩) m cap) xs ∧ w.grownBy (w.setCells g o vs) (some g) := by
 obtain ⟨hok, inner, ⟨Aa, Ab⟩, hr⟩ := h
 rcases Ab with ⟨hv, _⟩ | ⟨g', cap', cur, hv, hb, hh, hnc, hcm, hcs, ht⟩
 ·cases hv
 injection hv with ha hn hc; injection ha with ha; injection ha with hg; subst hg; subst hc; have hcz : cur.size = cap * 5 := hcs; obtain ⟨cur', h3, h4, h5⟩ := setCells_row vs o w cur hh (by omega); obtain ⟨s1, s2, s3, s4⟩ := setCells_same g vs o w; have hsz : (k26).sz = 5 := rfl; have hml : m = xs.length := hn
 have ht' : cur'.toList.take (xs.length * (k26).sz) = inner := by
  have hle : xs.length * (k26).sz ≤ o := by rw [hsz]; omega
  have hlo : o ≤ cur.toList.length := by rw [Array.length_toList, hcz]; omega
  rw [h5, List.append_assoc, List.take_append_of_le_length (by rw [List.length_take, Nat.min_eq_left hlo]; exact hle), List.take_take, Nat.min_eq_left hle]
  exact ht
 refine ⟨⟨hok, inner, ⟨Aa, .inr ⟨g, cap, cur', by rw [hn], hb, h3, hnc, hcm, by rw [h4]; exact hcs, ht'⟩⟩, hr.imp_ (fun p c hp => ?_)⟩, ⟨s1, s2, s3, Nat.le_of_eq s4.symm, fun k hk hne => ?_⟩⟩
 ·rw [k26_openM hp]
  exact k26_mkM _ _ _ _
 ·exact setCells_far vs o k (fun e => hne (by rw [e]))
theorem clear_wv (w : World) (g i m c : Nat) (cur : Array Value) (ty : TypeId) (hh : w.heap[g]? = some (.cells cur 26 (0, 0))) (hm : 0 < m) (hl : i + m * 5 ≤ cur.size) :
  (Builtin.clear_ #[32] ty #[.slice (some ⟨g, i, none⟩) m c]).run Tryd.prog w = .ok (.tuple #[]) (w.setCells g i (Builtin.zeroCells #[.int .i64 0, .string ⟨#[]⟩, .int .i64 0, .int .i64 0, .int .i64 0] m).toList) := by
 have hlen : (Builtin.zeroCells #[.int .i64 0, .string ⟨#[]⟩, .int .i64 0, .int .i64 0, .int .i64 0] m).toList.length = m * 5 := by rw [Array.length_toList, size_zeroCells]; rfl
 have hst := run_storeCells_cells (P := Tryd.prog) g i (Builtin.zeroCells #[.int .i64 0, .string ⟨#[]⟩, .int .i64 0, .int .i64 0, .int .i64 0] m).toList 0 w
  (by intro j hj; rw [hlen] at hj; rw [blk_cell hh (i + 0 + j)]; simp; omega)
  (by intro j hj; exact blk_frozen hh _)
  (by
   intro v hv; rw [Array.mem_toList_iff] at hv
   unfold Builtin.zeroCells at hv
   rw [Array.mem_map] at hv; obtain ⟨k, _, rfl⟩ := hv; have hk : k % 5 < 5 := Nat.mod_lt _ (by decide)
   have h5 : k % 5 = 0 ∨ k % 5 = 1 ∨ k % 5 = 2 ∨ k % 5 = 3 ∨ k % 5 = 4 := by omega
   rcases h5 with h | h | h | h | h <;> (simp only [List.size_toArray, List.length_cons, List.length_nil, Nat.zero_add, Nat.reduceAdd, h]; rfl))
 simp only [Nat.add_zero] at hst
 obtain ⟨m, rfl⟩ : ∃ q, m = q + 1 := ⟨m - 1, by omega⟩; have hz : (Value.agg #[.int .i64 0, .string ⟨#[]⟩, .int .i64 0, .int .i64 0, .int .i64 0]).cells = #[.int .i64 0, .string ⟨#[]⟩, .int .i64 0, .int .i64 0, .int .i64 0] := rfl
 simp [Builtin.clear_, hz, run_underlying Tryd.underlying32, Tryd.zeroValue26, hst]
theorem filter_hit_wv (del : S26 → Bool) (xs : List S26) (j : Nat) (hj : j < xs.length) : (xs.take (j + 1)).filter (fun x => !del x) = (xs.take j).filter (fun x => !del x) ++ if del (xs.getD j z26) = true then [] else [xs.getD j z26] := by
 have e : xs[j] = xs.getD j z26 := by rw [List.getD_eq_getElem?_getD, List.getElem?_eq_getElem hj]; rfl
 rw [List.take_succ_eq_append_getElem hj, List.filter_append, e]
 congr 1
 cases h : del (xs.getD j z26) with
 | true => rw [if_pos rfl, List.filter_cons_of_neg (by rw [h]; decide), List.filter_nil]
 | false => rw [if_neg (by decide), List.filter_cons_of_pos (by rw [h]; rfl), List.filter_nil]
theorem filter_none_wv (del : S26 → Bool) (xs : List S26) (k : Nat) (hk : k ≤ xs.length) (h : ∀ j : Nat, j < k → del (xs.getD j z26) = false) : (xs.take k).filter (fun x => !del x) = xs.take k := by
 rw [List.filter_eq_self]; intro x hx; obtain ⟨i, hi, rfl⟩ := List.getElem_of_mem hx; rw [List.length_take] at hi; have := h i (by omega); rw [List.getElem_take]; rw [List.getD_eq_getElem?_getD, List.getElem?_eq_getElem (by omega)] at this
 simp only [Option.getD_some] at this
 rw [this]
 rfl
theorem first_hit_wv (del : S26 → Bool) : ∀ (xs : List S26), (∀ j : Nat, j < xs.length → del (xs.getD j z26) = false) ∨ ∃ k, k < xs.length ∧ del (xs.getD k z26) = true ∧ ∀ j : Nat, j < k → del (xs.getD j z26) = false := by
 intro xs
 induction xs with
 | nil => exact .inl (fun j hj => absurd hj (by simp))
 | cons x r ih =>
  cases hx : del x with
  | true => exact .inr ⟨0, by simp, by simpa using hx, fun j hj => absurd hj (by omega)⟩
  | false =>
   rcases ih with h | ⟨k, hk, h1, h2⟩
   ·refine .inl (fun j hj => ?_)
    cases j with
    | zero => simpa using hx
    | succ j => simpa using h j (by simpa using hj)
   ·refine .inr ⟨k + 1, by simpa using hk, by simpa using h1, fun j hj => ?_⟩
    cases j with
    | zero => simpa using hx
    | succ j => simpa using h2 j (by omega)
theorem DeleteFunc_wv (del : S26 → Bool) (g : Nat) (lb : Array Value) (u : Value) (xs : List S26) (w0 w : World) (hB : Below w0.heap.size w0 w) (Aa : Kd.R k26 26 w w0.heap.size (fun _ => True) u xs) (hl : xs.length ≤ 1000000)
  (eg : ∀ args w, (callFunc g args).run Tryd.prog w = .ok (.enter g args) w)
  (hp : ∀ (W : World) (x : S26), Below w0.heap.size w0 W → Calls Tryd.prog g (#[.agg #[.int .i64 x.f0, .string x.f1, .int .i64 x.f2, .int .i64 x.f3, .int .i64 x.f4]] ++ lb) W fun e w' => e = .returned (.bool (del x)) ∧ Below W.heap.size W w') :
  Calls Tryd.prog 77 #[u, .func (.func g) #[] lb] w fun e w' => ∃ v, e = .returned v ∧ Kd.R k26 26 w' w0.heap.size (fun _ => True) v (xs.filter fun x => !del x) ∧ Below w0.heap.size w0 w' := by
 have hu_ := Tryd.underlying26; obtain ⟨A, cap, rfl⟩ := Kd.R_slice Aa; have hC := (Kd.R_reads' Aa).2.2; have hI := IndexFunc_wv del g lb A cap xs w eg hC (fun W x hW => hp W x (Below.trans hB (hW.mono hB.size))); have HB := Aside0.mk hB; have HR := Aside0.mk Aa; have HP := Aside0.mk hp
 rcases first_hit_wv del xs with hno | ⟨k0, hk0, hd0, hno⟩
 ·rw [findI_miss del z26 xs hno] at hI
  have HI := Aside0.mk hI; have HF := aM (filter_none_wv del xs xs.length (Nat.le_refl _) hno); clear hI hno hC hp Aa hB hl
  go_enter Tryd.func77, Tryd.ntmps77
  go_wp2_with fail
  refine HI.out.mono ?_; rintro e w1 ⟨rfl, hb⟩; have Ab := aM (Kd.R_below HR.out hb); have Ac := aM (below_step HB.out hb); clear hb
  go_wp2
  go_ret
  have hf := HF.out; rw [List.take_length] at hf; rw [hf]
  exact ⟨_, Z57, Ab.out, Ac.out⟩
 ·rw [findI_hit del z26 xs k0 hk0 hno hd0] at hI
  obtain ⟨b, cap', he, hge, hgl, _⟩ := Kd.R_form Aa (by omega); injection he with he1 he2 he3; subst he1; subst he3; have HI := Aside0.mk hI; have hnc := (Kd.R_reads' Aa).2.1; have HS : Aside0 ((0 : Int) ≤ (k0 : Int) ∧ (k0 : Int) < (k0 : Int) + 1 ∧ (k0 : Int) + 1 ≤ (xs.length : Int)) := ⟨by omega, by omega, by omega⟩
  have HF : Aside0 (xs.take ((k0 : Int)).toNat = (xs.take ((k0 : Int) + 1).toNat).filter fun x => !del x) := ⟨by
   rw [show ((k0 : Int) + 1).toNat = k0 + 1 from by omega, filter_hit_wv del xs k0 hk0, if_pos hd0, List.append_nil, filter_none_wv del xs k0 (by omega) hno]
   rfl⟩
  have HL := aM (show xs.length ≤ 1000000 ∧ xs.length ≤ cap from ⟨hl, hnc⟩); have n0 : ((k0 : Int) == -1) = false := beq_eq_false_iff_ne.2 (by omega)
  have wk : wrap64 ((k0 : Int) + 1) = (k0 : Int) + 1 := by unfold wrap64; omega
  clear hI hno hC hp Aa hB hl hk0 hd0 hge hgl hnc he2
  go_enter Tryd.func77, Tryd.ntmps77
  go_wp2_with fail
  refine HI.out.mono ?_; rintro e w1 ⟨rfl, hb⟩; have Ab := aM (Kd.R_below HR.out hb); have Ac := aM (below_step HB.out hb); clear hb
  go_wp2
  clear n0
  go_loopg [5, 6] xs.length (fun gg s5 s6 wr => ∃ (i j : Int) (ys : List S26), s5 = .int .i64 i ∧ s6 = .int .i64 j ∧ Aside0 (0 ≤ i ∧ i < j ∧ j ≤ (xs.length : Int) ∧ (xs.length : Int) - j ≤ gg) ∧ Aside0 (ys.length = xs.length ∧ ys.take i.toNat = (xs.take j.toNat).filter (fun x => !del x) ∧ ys.drop j.toNat = xs.drop j.toNat) ∧ Aside0 (Kd.R k26 26 wr w0.heap.size (fun _ => True) (.slice (some ⟨b, 0, none⟩) xs.length cap) ys) ∧ Aside0 (Below w0.heap.size w0 wr))
  case atStart => exact ⟨(k0 : Int), (k0 : Int) + 1, xs, rfl, by first | rfl | rw [wk] | simp [wk], ⟨Z113, Z113, Z113, Z113⟩, ⟨rfl, HF.out, rfl⟩, Ab, Ac⟩
  case round =>
   clear Ab Ac wk; obtain ⟨i, j, ys, rfl, rfl, HX, HY, RO, BW⟩ := hrel; have HYL := HY.out.1
   by_cases hlt : j < (xs.length : Int)
   ·have c0 : decide (j < (xs.length : Int)) = true := decide_eq_true hlt
    have hj0 : 0 ≤ j := by have := HX.out; omega
    obtain ⟨X, hX⟩ : ∃ X, X = (rd_T26 ys j) := ⟨_, rfl⟩; obtain ⟨ad, e0, b0, b1, b2, b3, b4⟩ := at_T26 (Kd.R_reads' RO.out).2.2 j hj0 (by rw [HYL]; exact hlt); cases e0
    have ea : (⟨b, 0, none⟩ : Addr).add (j.toNat * 5) = ⟨b, j.toNat * 5, none⟩ := by unfold Addr.add; split <;> simp_all
    rw [← hX] at b0 b1 b2 b3 b4; rw [ea] at b0 b1 b2 b3 b4; clear ea
    have hXx : X = xs.getD j.toNat z26 := by
     rw [hX]
     show ys.getD j.toNat z26 = _
     have := HY.out.2.2; rw [List.getD_eq_getElem?_getD, List.getD_eq_getElem?_getD]
     have h1 : (ys.drop j.toNat)[0]? = (xs.drop j.toNat)[0]? := by rw [this]
     rw [List.getElem?_drop, List.getElem?_drop, Nat.add_zero] at h1; rw [h1]
    have HFH := aM (filter_hit_wv del xs j.toNat (by omega)); rw [← hXx] at HFH; have HBa := aM (below_alloc BW.out (.cells #[.int .i64 X.f0, .string X.f1, .int .i64 X.f2, .int .i64 X.f3, .int .i64 X.f4] 26)); have hcall := HP.out _ X HBa.out; have HLT := Aside0.mk hlt; have q0 := eq_true hj0; have q1 := eq_true hlt
    have w1j : wrap64 (j + 1) = j + 1 := by have := HL.out; unfold wrap64; omega
    have w1i : wrap64 (i + 1) = i + 1 := by have := HX.out; have := HL.out; unfold wrap64; omega
    have HXX := Aside0.mk hX; clear hlt hXx hX; cases hq : del X with
    | true =>
     rw [hq] at hcall; have HC := Aside0.mk hcall; have HQ := Aside0.mk hq; clear hcall hq
     go_wp2_with fail
     refine HC.out.mono ?_; rintro e w2 ⟨rfl, hb⟩; have Ae := aM (below_step HBa.out hb); have Ad := aM (Kd.R_below (Kd.R_alloc RO.out (.cells #[.int .i64 X.f0, .string X.f1, .int .i64 X.f2, .int .i64 X.f3, .int .i64 X.f4] 26)) hb); clear hb
     go_wp2
     go_roundg (xs.length - (j.toNat + 1))
     case measure => have := HX.out; have := HLT.out; omega
     case rel =>
      refine ⟨i, j + 1, ys, rfl, by first | rfl | rw [w1j] | simp [w1j], ⟨Z70, Z70, by have := HLT.out; omega, by have := HX.out; have := HLT.out; omega⟩, ⟨HYL, ?_, ?_⟩, Ad, Ae⟩
      ·rw [show (j + 1).toNat = j.toNat + 1 from Z70, HFH.out, if_pos HQ.out, List.append_nil]
       exact HY.out.2.1
      ·have := HY.out.2.2
       rw [show (j + 1).toNat = j.toNat + 1 from Z70, ← List.drop_drop, ← List.drop_drop, this]
    | false =>
     rw [hq] at hcall; have HC := Aside0.mk hcall; have HQ := Aside0.mk hq; clear hcall hq
     go_wp2_with fail
     refine HC.out.mono ?_; rintro e w2 ⟨rfl, hb⟩; have Ae := aM (below_step HBa.out hb); have Ad := aM (Kd.R_below (Kd.R_alloc RO.out (.cells #[.int .i64 X.f0, .string X.f1, .int .i64 X.f2, .int .i64 X.f3, .int .i64 X.f4] 26)) hb); have HBK := aM (blk_below (blk_new wr (.cells #[.int .i64 X.f0, .string X.f1, .int .i64 X.f2, .int .i64 X.f3, .int .i64 X.f4] 26)) hb); clear hb b0 b1 b2 b3 b4 q0 q1; have m0 : w2.cell? ⟨wr.heap.size, 0, none⟩ = some (.int .i64 X.f0) := (blk_cell HBK.out 0).trans rfl; have m1 : w2.cell? ⟨wr.heap.size, 1, none⟩ = some (.string X.f1) := (blk_cell HBK.out 1).trans rfl; have m2 : w2.cell? ⟨wr.heap.size, 2, none⟩ = some (.int .i64 X.f2) := (blk_cell HBK.out 2).trans rfl; have m3 : w2.cell? ⟨wr.heap.size, 3, none⟩ = some (.int .i64 X.f3) := (blk_cell HBK.out 3).trans rfl; have m4 : w2.cell? ⟨wr.heap.size, 4, none⟩ = some (.int .i64 X.f4) := (blk_cell HBK.out 4).trans rfl
     have hi0 : 0 ≤ i := by have := HX.out; omega
     have hi1 : i < (xs.length : Int) := by have := HX.out; have := HLT.out; omega
     have q0 := eq_true hi0; have q1 := eq_true hi1; obtain ⟨ad, e0, b0, b1, b2, b3, b4⟩ := at_T26 (Kd.R_reads' Ad.out).2.2 i hi0 (by rw [HYL]; exact hi1); obtain rfl := Option.some.inj e0
     have HOLD : Aside0 (∀ (k : Nat) (u : Value), [.int .i64 (rd_T26 ys i).f0, .string (rd_T26 ys i).f1, .int .i64 (rd_T26 ys i).f2, .int .i64 (rd_T26 ys i).f3, .int .i64 (rd_T26 ys i).f4][k]? = some u → w2.cell? ⟨b, i.toNat * 5 + k, none⟩ = some u) := ⟨fun k u hu => by
      have h5 : k = 0 ∨ k = 1 ∨ k = 2 ∨ k = 3 ∨ k = 4 := by
       rcases Nat.lt_or_ge k 5 with h | h
       ·omega
       ·rw [List.getElem?_eq_none (by simpa using h)] at hu; cases hu
      have ea : (⟨b, 0, none⟩ : Addr).add (i.toNat * 5) = ⟨b, i.toNat * 5, none⟩ := by unfold Addr.add; split <;> simp_all
      rw [ea] at b0 b1 b2 b3 b4
      rcases h5 with rfl | rfl | rfl | rfl | rfl
      ·injection hu with hu; subst hu; exact b0
      ·injection hu with hu; subst hu; exact b1
      ·injection hu with hu; subst hu; exact b2
      ·injection hu with hu; subst hu; exact b3
      ·injection hu with hu; subst hu; exact b4⟩
     clear b0 b1 b2 b3 b4
     go_wp2_with (first | ((with_reducible refine gate_store (p := 33) rfl ?_); refine Kd.R_store k26 (w0 := w0) w0.heap.size rfl rfl 26 (.tmp 33) (.tmp 32) rfl 26 (g := b) (n := xs.length) (cap := cap) i 0 ys X (.agg #[.int .i64 X.f0, .string X.f1, .int .i64 X.f2, .int .i64 X.f3, .int .i64 X.f4]) [.int .i64 X.f0, .string X.f1, .int .i64 X.f2, .int .i64 X.f3, .int .i64 X.f4] [.int .i64 (rd_T26 ys i).f0, .string (rd_T26 ys i).f1, .int .i64 (rd_T26 ys i).f2, .int .i64 (rd_T26 ys i).f3, .int .i64 (rd_T26 ys i).f4] (fun _ => True) (fun _ => False) rfl ?so rfl rfl ?st ?s1 Ad.out hi0 hi1 rfl HOLD.out (Nat.le_of_eq rfl) ?sm (fun _ h => h.elim) Ae.out ?_; (case so => first | rfl | (simp; done)); (case st => exact info_size26); (case s1 => intro q hq; simp only [List.mem_cons, List.not_mem_nil, or_false] at hq; rcases hq with rfl | rfl | rfl | rfl | rfl <;> rfl); (case sm => exact k26_mkM _ _ _ _); intro w3 hR3 hB3 hg3; have Af := Aside0.mk hR3; have Ag := Aside0.mk hB3; clear hR3 hB3 hg3))
     go_roundg (xs.length - (j.toNat + 1))
     case measure => have := HX.out; have := HLT.out; omega
     case rel =>
      refine ⟨i + 1, j + 1, ys.set i.toNat X, by first | rfl | rw [w1i] | simp [w1i], by first | rfl | rw [w1j] | simp [w1j], ⟨Z70, Z70, by have := HLT.out; omega, by have := HX.out; have := HLT.out; omega⟩, ⟨by rw [List.length_set]; exact HYL, ?_, ?_⟩, Af, Ag⟩
      ·rw [show (j + 1).toNat = j.toNat + 1 from Z70, HFH.out, if_neg (by rw [HQ.out]; decide), ← HY.out.2.1, show (i + 1).toNat = i.toNat + 1 from Z70]
       have hil : i.toNat < (ys.set i.toNat X).length := by rw [List.length_set, HYL]; have := HX.out; have := HLT.out; omega
       rw [List.take_succ_eq_append_getElem hil, List.getElem_set_self, List.take_set_of_le (Nat.le_refl _)]
      ·have := HY.out.2.2
       rw [show (j + 1).toNat = j.toNat + 1 from Z70, List.drop_set_of_lt Z70, ← List.drop_drop, ← List.drop_drop, this]
   ·have c0 : decide (j < (xs.length : Int)) = false := decide_eq_false hlt
    have hjn : j = (xs.length : Int) := by have := HX.out; omega
    have HI2 : Aside0 (i.toNat < xs.length ∧ 0 ≤ i) := ⟨Z70, Z70⟩; have HT : Aside0 (ys.take i.toNat = xs.filter fun x => !del x) := ⟨by rw [HY.out.2.1, hjn, Int.toNat_natCast, List.take_length]⟩; clear hlt hjn; obtain ⟨i0, hi0, _, hsz0, _⟩ := info_parts info26; have hcutT := cut_to 32 26 .i64 Tryd.underlying32 hi0 (some ⟨b, 0, none⟩) xs.length cap i HI2.out.2 Z112 HL.out.2; have hcutF := cut_from 32 26 .i64 Tryd.underlying32 hi0 5 hsz0 (some ⟨b, 0, none⟩) xs.length cap i HI2.out.2 Z112; rw [if_neg (show ¬ cap = i.toNat from by have := HI2.out; have := HL.out; omega)] at hcutF
    have ea : (some (⟨b, 0, none⟩ : Addr)).map (·.add (i.toNat * 5)) = some ⟨b, i.toNat * 5, none⟩ := by
     show some ((⟨b, 0, none⟩ : Addr).add (i.toNat * 5)) = _
     congr 1
     unfold Addr.add
     split <;> simp_all
    rw [ea] at hcutF; have hRt := Kd.R_take RO.out (m := i.toNat) (by rw [HYL]; have := HI2.out; omega); rw [HT.out] at hRt; obtain ⟨cur, hh, hcs⟩ := row_block_wv RO.out Z112; have hclr := clear_wv wr b (i.toNat * 5) (xs.length - i.toNat) (cap - i.toNat) cur
    have hclr2 := fun ty => hclr ty hh Z112 (by rw [hcs]; have := HI2.out; have := HL.out; omega)
    have HBE := aM (R_beyond_wv hRt (Builtin.zeroCells #[.int .i64 0, .string ⟨#[]⟩, .int .i64 0, .int .i64 0, .int .i64 0] (xs.length - i.toNat)).toList (Nat.le_refl _) (by rw [Array.length_toList, size_zeroCells]; show _ + (xs.length - i.toNat) * 5 ≤ _; have := HI2.out; have := HL.out; omega)); have HBG := aM (Kd.R_base RO.out b (by simp [Value.ownBlock]))
    generalize (Builtin.zeroCells #[.int .i64 0, .string ⟨#[]⟩, .int .i64 0, .int .i64 0, .int .i64 0] (xs.length - i.toNat)).toList = zs at hclr2 HBE
    clear ea hRt hclr hh hcs hsz0 hi0
    go_wp2
    go_ret
    exact ⟨_, Z57, HBE.out.1, BW.out.grown HBE.out.2 BW.out.size (fun k hk => by injection hk with hk; subst hk; exact HBG.out)⟩
def cmpW (a b : Int) : Int := if a < b then -1 else if b < a then 1 else 0
set_option maxHeartbeats 4000000 in
set_option maxRecDepth 100000 in
theorem cmpW_calls (x y : Int) (W : World) : Calls Tryd.prog 82 #[.int .i64 x, .int .i64 y] W fun e w' => e = .returned (.int .i64 (cmpW x y)) ∧ w' = W := by
 have hn : (x != x) = false := by simp
 have hm : (y != y) = false := by simp
 by_cases h1 : x < y
 ·have c0 : decide (x < y) = true := decide_eq_true h1
  have e : cmpW x y = -1 := if_pos h1; rw [e]; clear h1 e
  go_enter Tryd.func82, Tryd.ntmps82
  go_wp2
  go_ret
  exact ⟨rfl, rfl⟩
 ·have c0 : decide (x < y) = false := decide_eq_false h1
  by_cases h2 : y < x
  ·have c1 : decide (y < x) = true := decide_eq_true h2
   have e : cmpW x y = 1 := by unfold cmpW; rw [if_neg h1, if_pos h2]
   rw [e]; clear h1 h2 e
   go_enter Tryd.func82, Tryd.ntmps82
   go_wp2
   go_ret
   exact ⟨rfl, rfl⟩
  ·have c1 : decide (y < x) = false := decide_eq_false h2
   have e : cmpW x y = 0 := by unfold cmpW; rw [if_neg h1, if_neg h2]
   rw [e]; clear h1 h2 e
   go_enter Tryd.func82, Tryd.ntmps82
   go_wp2
   go_ret
   exact ⟨rfl, rfl⟩
def minTo_wv (of : S26 → S26 → Int) (xs : List S26) : Nat → S26
 | 0 => xs.getD 0 z26
 | i + 1 => if of (xs.getD (i + 1) z26) (minTo_wv of xs i) < 0 then xs.getD (i + 1) z26 else minTo_wv of xs i
theorem MinFunc_wv (of : S26 → S26 → Int) (g : Nat) (lb : Array Value) (A : Option Addr) (c : Nat) (xs : List S26) (w : World) (h0 : 0 < xs.length)
  (eg : ∀ args w, (callFunc g args).run Tryd.prog w = .ok (.enter g args) w) (hr : Kd.C k26 w A xs.length xs)
  (hp : ∀ (W : World) (x y : S26), Below w.heap.size w W → Calls Tryd.prog g (#[.agg #[.int .i64 x.f0, .string x.f1, .int .i64 x.f2, .int .i64 x.f3, .int .i64 x.f4], .agg #[.int .i64 y.f0, .string y.f1, .int .i64 y.f2, .int .i64 y.f3, .int .i64 y.f4]] ++ lb) W fun e w' => e = .returned (.int .i64 (of x y)) ∧ Below W.heap.size W w') :
  Calls Tryd.prog 80 #[.slice A xs.length c, .func (.func g) #[] lb] w fun e w' => e = .returned (.agg #[.int .i64 (minTo_wv of xs (xs.length - 1)).f0, .string (minTo_wv of xs (xs.length - 1)).f1, .int .i64 (minTo_wv of xs (xs.length - 1)).f2, .int .i64 (minTo_wv of xs (xs.length - 1)).f3, .int .i64 (minTo_wv of xs (xs.length - 1)).f4]) ∧ Below w.heap.size w w' := by
 have hu_ := Tryd.underlying26; have hlen := Aside0.mk hr.2.1; have HR := Aside0.mk hr; have HP := Aside0.mk hp; have Aa : decide ((xs.length : Int) < 1) = false := decide_eq_false (by omega); have Ab : decide (xs.length < 1) = false := decide_eq_false (by omega); have H0 := Aside0.mk h0; obtain ⟨ad, e0, b0, b1, b2, b3, b4⟩ := at_T26 (Kd.C_below hr (below_alloc (Below.refl _ _) (.cells #[.int .i64 0, .string ⟨#[]⟩, .int .i64 0, .int .i64 0, .int .i64 0] 26))) 0 (by omega) (by omega); subst e0; obtain ⟨X0, hX0⟩ : ∃ X0, X0 = (rd_T26 xs 0) := ⟨_, rfl⟩; rw [← hX0] at b0 b1 b2 b3 b4
 simp only [Int.toNat_zero, Nat.zero_mul] at b0 b1 b2 b3 b4
 have ea : ad.add 0 = ad := rfl; rw [ea] at b0 b1 b2 b3 b4; clear ea; have p0 : 0 < xs.length := h0; have HX0 : Aside0 (X0 = minTo_wv of xs 0) := ⟨hX0⟩; clear hr hp hX0
 go_enter Tryd.func80, Tryd.ntmps80
 go_wp2
 clear b0 b1 b2 b3 b4
 go_loopg [6] xs.length (fun gg s6 wr => ∃ (x : Int) (mv : S26), s6 = .int .i64 x ∧ Aside0 (1 ≤ x ∧ x ≤ (xs.length : Int) ∧ (xs.length : Int) - x ≤ gg) ∧ Aside0 (Below w.heap.size w wr) ∧ Aside0 (wr.heap[w.heap.size + 1]? = some (.cells #[.int .i64 mv.f0, .string mv.f1, .int .i64 mv.f2, .int .i64 mv.f3, .int .i64 mv.f4] 26 (0, 0))) ∧ Aside0 (wr.heap[w.heap.size]? = some (.cells #[.int .i64 0, .string ⟨#[]⟩, .int .i64 0, .int .i64 0, .int .i64 0] 26 (0, 0))) ∧ Aside0 (mv = minTo_wv of xs (x - 1).toNat))
 case atStart => exact ⟨1, X0, rfl, ⟨by omega, by have := H0.out; omega, by omega⟩, ⟨below_alloc (below_alloc (Below.refl _ _) _) _⟩, ⟨by have h := blk_new (w.alloc (.cells #[.int .i64 0, .string ⟨#[]⟩, .int .i64 0, .int .i64 0, .int .i64 0] 26)) (.cells #[.int .i64 X0.f0, .string X0.f1, .int .i64 X0.f2, .int .i64 X0.f3, .int .i64 X0.f4] 26 (0, 0)); rw [show (w.alloc (.cells #[.int .i64 0, .string ⟨#[]⟩, .int .i64 0, .int .i64 0, .int .i64 0] 26)).heap.size = w.heap.size + 1 by simp] at h; exact h⟩, ⟨blk_alloc (blk_new w _) _⟩, HX0⟩
 case round =>
  obtain ⟨x, mv, rfl, HX, BW, BK, BZ, HM⟩ := hrel; have z0 := aM (blk_lt BK.out)
  by_cases hlt : x < (xs.length : Int)
  ·have c0 : decide (x < (xs.length : Int)) = true := decide_eq_true hlt
   have h1 : 0 ≤ x := by have := HX.out; omega
   have HL := Aside0.mk hlt; obtain ⟨X, hX⟩ : ∃ X, X = (rd_T26 xs x) := ⟨_, rfl⟩; have HXX := Aside0.mk hX
   have KEY : Aside0 (∀ W', Below wr.heap.size wr W' → Below wr.heap.size wr W' ∧ W'.cell? (ad.add (x.toNat * 5)) = some (.int .i64 X.f0) ∧ W'.cell? ⟨(ad.add (x.toNat * 5)).block, (ad.add (x.toNat * 5)).off + 1, none⟩ = some (.string X.f1) ∧ W'.cell? ⟨(ad.add (x.toNat * 5)).block, (ad.add (x.toNat * 5)).off + 2, none⟩ = some (.int .i64 X.f2) ∧ W'.cell? ⟨(ad.add (x.toNat * 5)).block, (ad.add (x.toNat * 5)).off + 3, none⟩ = some (.int .i64 X.f3) ∧ W'.cell? ⟨(ad.add (x.toNat * 5)).block, (ad.add (x.toNat * 5)).off + 4, none⟩ = some (.int .i64 X.f4) ∧ W'.cell? ⟨w.heap.size + 1, 0, none⟩ = some (.int .i64 mv.f0) ∧ W'.cell? ⟨w.heap.size + 1, 1, none⟩ = some (.string mv.f1) ∧ W'.cell? ⟨w.heap.size + 1, 2, none⟩ = some (.int .i64 mv.f2) ∧ W'.cell? ⟨w.heap.size + 1, 3, none⟩ = some (.int .i64 mv.f3) ∧ W'.cell? ⟨w.heap.size + 1, 4, none⟩ = some (.int .i64 mv.f4)) := ⟨fun W' h => by
    obtain ⟨a1, e1, d0, d1, d2, d3, d4⟩ := at_T26 (Kd.C_below (Kd.C_below HR.out BW.out) h) x h1 hlt; obtain rfl := Option.some.inj e1; rw [← hX] at d0 d1 d2 d3 d4; have hb := blk_below BK.out h
    exact ⟨h, d0, d1, d2, d3, d4, (blk_cell hb 0).trans rfl, (blk_cell hb 1).trans rfl, (blk_cell hb 2).trans rfl, (blk_cell hb 3).trans rfl, (blk_cell hb 4).trans rfl⟩⟩
   have hw1 : wrap64 (x + 1) = x + 1 := by have := HX.out; have := hlen.out; unfold wrap64; omega
   have q0 := eq_true h1; have q1 := eq_true hlt
   have HS : Aside0 (minTo_wv of xs (x + 1 - 1).toNat = if of X mv < 0 then X else mv) := ⟨by
    have e : (x + 1 - 1).toNat = (x - 1).toNat + 1 := by have := HX.out; omega
    have e2 : xs.getD ((x - 1).toNat + 1) z26 = X := by rw [hX, show (x - 1).toNat + 1 = x.toNat from Z70]; rfl
    rw [e, minTo_wv, e2, ← HM.out]⟩
   have HK := KEY.out _ (Below.refl _ _); obtain ⟨_, b0, b1, b2, b3, b4, m0, m1, m2, m3, m4⟩ := HK; clear hlt hX
   by_cases hc : of X mv < 0
   ·have c1 : decide (of X mv < 0) = true := decide_eq_true hc
    have HC := Aside0.mk hc; clear hc
    go_wp2_with fail
    go_region_held3 (fun W' => Below wr.heap.size wr W' ∧ W'.cell? (ad.add (x.toNat * 5)) = some (.int .i64 X.f0) ∧ W'.cell? ⟨(ad.add (x.toNat * 5)).block, (ad.add (x.toNat * 5)).off + 1, none⟩ = some (.string X.f1) ∧ W'.cell? ⟨(ad.add (x.toNat * 5)).block, (ad.add (x.toNat * 5)).off + 2, none⟩ = some (.int .i64 X.f2) ∧ W'.cell? ⟨(ad.add (x.toNat * 5)).block, (ad.add (x.toNat * 5)).off + 3, none⟩ = some (.int .i64 X.f3) ∧ W'.cell? ⟨(ad.add (x.toNat * 5)).block, (ad.add (x.toNat * 5)).off + 4, none⟩ = some (.int .i64 X.f4) ∧ W'.cell? ⟨w.heap.size + 1, 0, none⟩ = some (.int .i64 mv.f0) ∧ W'.cell? ⟨w.heap.size + 1, 1, none⟩ = some (.string mv.f1) ∧ W'.cell? ⟨w.heap.size + 1, 2, none⟩ = some (.int .i64 mv.f2) ∧ W'.cell? ⟨w.heap.size + 1, 3, none⟩ = some (.int .i64 mv.f3) ∧ W'.cell? ⟨w.heap.size + 1, 4, none⟩ = some (.int .i64 mv.f4))
     ((refine KEY.out _ ?_; first | ((repeat (first | exact Below.refl _ _ | assumption | exact (‹Below wr.heap.size wr _ ∧ _›).1 | apply below_drew1 | apply pw_below_drewN)); done) | (refine below_step ?_ hb'; (repeat (first | exact Below.refl _ _ | assumption | exact (‹Below wr.heap.size wr _ ∧ _›).1 | apply below_drew1 | apply pw_below_drewN)); done)))
     (first | (go_at_fn g; refine Calls.mono (HP.out _ X mv ?_) ?_; (refine Below.trans BW.out (Below.mono ?_ (below_size BW.out)); (repeat (first | exact Below.refl _ _ | assumption | exact (‹Below wr.heap.size wr _ ∧ _›).1 | apply below_drew1 | apply pw_below_drewN))); rintro e w' ⟨rfl, hb'⟩))
    have HBr : Aside0 (Below wr.heap.size wr w') := ⟨(‹Below wr.heap.size wr w' ∧ _›).1⟩; clear b0 b1 b2 b3 b4 m0 m1 m2 m3 m4; obtain ⟨_, b0, b1, b2, b3, b4, m0, m1, m2, m3, m4⟩ := KEY.out _ HBr.out; have HBK := aM (blk_below BK.out HBr.out); have HBZ := aM (blk_below BZ.out HBr.out); have HB := aM (Below.trans BW.out (HBr.out.mono (below_size BW.out))); have f0 := blk_frozen HBK.out 0; have f1 := blk_frozen HBK.out 1; have f2 := blk_frozen HBK.out 2; have f3 := blk_frozen HBK.out 3; have f4 := blk_frozen HBK.out 4
    go_wp2
    go_roundg (xs.length - (x.toNat + 1))
    case measure => have := HX.out; have := HL.out; omega
    case rel =>
     refine ⟨x + 1, X, Z108, ⟨Z70, Z110, Z106⟩, ⟨?_⟩, ⟨?_⟩, ⟨?_⟩, ⟨by rw [HS.out, if_pos (by have := HC.out; omega)]⟩⟩
     ·exact (((((HB.out).setCell (by simp) _).setCell (by simp) _).setCell (by simp) _).setCell (by simp) _).setCell (by simp) _
     ·exact blk_put (blk_put (blk_put (blk_put (blk_put (HBK.out) 0 (.int .i64 X.f0) rfl) 1 (.string X.f1) rfl) 2 (.int .i64 X.f2) rfl) 3 (.int .i64 X.f3) rfl) 4 (.int .i64 X.f4) rfl
     ·exact blk_far (blk_far (blk_far (blk_far (blk_far (HBZ.out) (p := ⟨w.heap.size + 1, 0, none⟩) (by simp) _) (p := ⟨w.heap.size + 1, 1, none⟩) (by simp) _) (p := ⟨w.heap.size + 1, 2, none⟩) (by simp) _) (p := ⟨w.heap.size + 1, 3, none⟩) (by simp) _) (p := ⟨w.heap.size + 1, 4, none⟩) (by simp) _
   ·have c1 : decide (of X mv < 0) = false := decide_eq_false hc
    have HC := Aside0.mk hc; clear hc
    go_wp2_with fail
    go_region_held3 (fun W' => Below wr.heap.size wr W' ∧ W'.cell? (ad.add (x.toNat * 5)) = some (.int .i64 X.f0) ∧ W'.cell? ⟨(ad.add (x.toNat * 5)).block, (ad.add (x.toNat * 5)).off + 1, none⟩ = some (.string X.f1) ∧ W'.cell? ⟨(ad.add (x.toNat * 5)).block, (ad.add (x.toNat * 5)).off + 2, none⟩ = some (.int .i64 X.f2) ∧ W'.cell? ⟨(ad.add (x.toNat * 5)).block, (ad.add (x.toNat * 5)).off + 3, none⟩ = some (.int .i64 X.f3) ∧ W'.cell? ⟨(ad.add (x.toNat * 5)).block, (ad.add (x.toNat * 5)).off + 4, none⟩ = some (.int .i64 X.f4) ∧ W'.cell? ⟨w.heap.size + 1, 0, none⟩ = some (.int .i64 mv.f0) ∧ W'.cell? ⟨w.heap.size + 1, 1, none⟩ = some (.string mv.f1) ∧ W'.cell? ⟨w.heap.size + 1, 2, none⟩ = some (.int .i64 mv.f2) ∧ W'.cell? ⟨w.heap.size + 1, 3, none⟩ = some (.int .i64 mv.f3) ∧ W'.cell? ⟨w.heap.size + 1, 4, none⟩ = some (.int .i64 mv.f4))
     ((refine KEY.out _ ?_; first | ((repeat (first | exact Below.refl _ _ | assumption | exact (‹Below wr.heap.size wr _ ∧ _›).1 | apply below_drew1 | apply pw_below_drewN)); done) | (refine below_step ?_ hb'; (repeat (first | exact Below.refl _ _ | assumption | exact (‹Below wr.heap.size wr _ ∧ _›).1 | apply below_drew1 | apply pw_below_drewN)); done)))
     (first | (go_at_fn g; refine Calls.mono (HP.out _ X mv ?_) ?_; (refine Below.trans BW.out (Below.mono ?_ (below_size BW.out)); (repeat (first | exact Below.refl _ _ | assumption | exact (‹Below wr.heap.size wr _ ∧ _›).1 | apply below_drew1 | apply pw_below_drewN))); rintro e w' ⟨rfl, hb'⟩))
    have HBr : Aside0 (Below wr.heap.size wr w') := ⟨(‹Below wr.heap.size wr w' ∧ _›).1⟩; have HBK := aM (blk_below BK.out HBr.out); have HBZ := aM (blk_below BZ.out HBr.out); have HB := aM (Below.trans BW.out (HBr.out.mono (below_size BW.out)))
    go_wp2
    go_roundg (xs.length - (x.toNat + 1))
    case measure => have := HX.out; have := HL.out; omega
    case rel => exact ⟨x + 1, mv, Z108, ⟨Z70, Z110, Z106⟩, HB, HBK, HBZ, ⟨by rw [HS.out, if_neg (by have := HC.out; omega)]⟩⟩
  ·have c0 : decide (x < (xs.length : Int)) = false := decide_eq_false hlt
   have HE : Aside0 (mv = minTo_wv of xs (xs.length - 1)) := ⟨by rw [HM.out, show (x - 1).toNat = xs.length - 1 from Z70]⟩; clear hlt; have m0 : wr.cell? ⟨w.heap.size + 1, 0, none⟩ = some (.int .i64 mv.f0) := (blk_cell BK.out 0).trans rfl; have m1 : wr.cell? ⟨w.heap.size + 1, 1, none⟩ = some (.string mv.f1) := (blk_cell BK.out 1).trans rfl; have m2 : wr.cell? ⟨w.heap.size + 1, 2, none⟩ = some (.int .i64 mv.f2) := (blk_cell BK.out 2).trans rfl; have m3 : wr.cell? ⟨w.heap.size + 1, 3, none⟩ = some (.int .i64 mv.f3) := (blk_cell BK.out 3).trans rfl; have m4 : wr.cell? ⟨w.heap.size + 1, 4, none⟩ = some (.int .i64 mv.f4) := (blk_cell BK.out 4).trans rfl; have f0 := blk_frozen BZ.out 0; have f1 := blk_frozen BZ.out 1; have f2 := blk_frozen BZ.out 2; have f3 := blk_frozen BZ.out 3; have f4 := blk_frozen BZ.out 4; have y0 : wr.cell? ⟨w.heap.size, 0, none⟩ = some (.int .i64 0) := (blk_cell BZ.out 0).trans rfl; have y1 : wr.cell? ⟨w.heap.size, 1, none⟩ = some (.string ⟨#[]⟩) := (blk_cell BZ.out 1).trans rfl; have y2 : wr.cell? ⟨w.heap.size, 2, none⟩ = some (.int .i64 0) := (blk_cell BZ.out 2).trans rfl; have y3 : wr.cell? ⟨w.heap.size, 3, none⟩ = some (.int .i64 0) := (blk_cell BZ.out 3).trans rfl; have y4 : wr.cell? ⟨w.heap.size, 4, none⟩ = some (.int .i64 0) := (blk_cell BZ.out 4).trans rfl
   go_wp2
   rw [← HE.out]
   exact bodyPost_ret (v := .agg #[.int .i64 mv.f0, .string mv.f1, .int .i64 mv.f2, .int .i64 mv.f3, .int .i64 mv.f4]) (by simp [results, Tryd.results80, go_sem, y0, y1, y2, y3, y4]) rfl ⟨rfl, (((((BW.out).setCell (by simp) _).setCell (by simp) _).setCell (by simp) _).setCell (by simp) _).setCell (by simp) _⟩
def impl_FastestFree_2.of (x y : S26) : Int := cmpW y.f3 x.f3
set_option maxHeartbeats 4000000 in
set_option maxRecDepth 100000 in
theorem impl_FastestFree_2.any (x y : S26) (W : World) : Calls Tryd.prog 81 #[.agg #[.int .i64 x.f0, .string x.f1, .int .i64 x.f2, .int .i64 x.f3, .int .i64 x.f4], .agg #[.int .i64 y.f0, .string y.f1, .int .i64 y.f2, .int .i64 y.f3, .int .i64 y.f4]] W fun e w' => e = .returned (.int .i64 (impl_FastestFree_2.of x y)) ∧ Below W.heap.size W w' := by
 have hu_ := Tryd.underlying26; have H := aM (fun w1 => cmpW_calls y.f3 x.f3 w1); have HB := aM (below_alloc (below_alloc (Below.refl W.heap.size W) (.cells #[.int .i64 x.f0, .string x.f1, .int .i64 x.f2, .int .i64 x.f3, .int .i64 x.f4] 26)) (.cells #[.int .i64 y.f0, .string y.f1, .int .i64 y.f2, .int .i64 y.f3, .int .i64 y.f4] 26))
 go_enter Tryd.func81, Tryd.ntmps81
 go_wp2_with fail
 refine (H.out _).mono ?_; rintro e w' ⟨rfl, rfl⟩
 go_wp2
 go_ret
 exact ⟨rfl, HB.out⟩
def delF (x : S26) : Bool := (x.f4 != 0) || !((Go.bits .and .i64 x.f2 1) == 1)
set_option maxHeartbeats 4000000 in
set_option maxRecDepth 100000 in
theorem FastestFree_1 (x : S26) (W : World) : Calls Tryd.prog 79 #[.agg #[.int .i64 x.f0, .string x.f1, .int .i64 x.f2, .int .i64 x.f3, .int .i64 x.f4]] W fun e w' => e = .returned (.bool (delF x)) ∧ Below W.heap.size W w' := by
 have hu_ := Tryd.underlying26; have HB := aM (below_alloc (Below.refl W.heap.size W) (.cells #[.int .i64 x.f0, .string x.f1, .int .i64 x.f2, .int .i64 x.f3, .int .i64 x.f4] 26)); have HH := aM (impl_Weaver_has.calls x.f0 x.f1 x.f2 x.f3 x.f4 1 ((Go.bits .and .i64 x.f2 1) == 1) (W.alloc (.cells #[.int .i64 x.f0, .string x.f1, .int .i64 x.f2, .int .i64 x.f3, .int .i64 x.f4] 26)) rfl)
 by_cases h0 : x.f4 = 0
 ·have d0 : (x.f4 != 0) = false := by simp [h0]
  have d1 : (x.f4 == 0) = true := by simp [h0]
  have e : delF x = !((Go.bits .and .i64 x.f2 1) == 1) := by unfold delF; rw [d0]; rfl
  rw [e]; clear e h0; obtain ⟨q, hq⟩ : ∃ q, q = ((Go.bits .and .i64 x.f2 1) == 1) := ⟨_, rfl⟩; rw [← hq] at HH ⊢; clear hq; cases q with
  | true =>
   go_enter Tryd.func79, Tryd.ntmps79
   go_wp2_with fail
   refine HH.out.mono ?_; rintro e w' ⟨rfl, hb⟩; have Aa := aM (below_step HB.out hb); clear hb
   go_wp2
   go_ret
   exact ⟨Z57, Aa.out⟩
  | false =>
   go_enter Tryd.func79, Tryd.ntmps79
   go_wp2_with fail
   refine HH.out.mono ?_; rintro e w' ⟨rfl, hb⟩; have Aa := aM (below_step HB.out hb); clear hb
   go_wp2
   go_ret
   exact ⟨Z57, Aa.out⟩
 ·have d0 : (x.f4 != 0) = true := by simp [h0]
  have d1 : (x.f4 == 0) = false := by simp [h0]
  have e : delF x = true := by unfold delF; rw [d0]; rfl
  rw [e]; clear e h0 HH
  go_enter Tryd.func79, Tryd.ntmps79
  go_wp2
  go_ret
  exact ⟨Z57, HB.out⟩
def freeW (l0 : List (S26)) : List (S26) := l0.filter fun x => !delF x
def impl_FastestFree.f (l0 : List (S26)) : Option (Int × Bool) := (impl_AreWeavers.f l0).bind fun b => if b = true then (if l0.length ≤ 1000000 then (if (freeW l0).length = 0 then some (0, false) else some ((minTo_wv impl_FastestFree_2.of (freeW l0) ((freeW l0).length - 1)).f0, true)) else none) else some (0, false)
theorem impl_FastestFree.calls (A0 : Option Addr) (c0 : Nat) (l0 : List (S26)) (r1 : Int) (r2 : Bool) (w : World) (Ab : Kd.C k26 w A0 l0.length l0) (Ac : l0.length ≤ c0) (h : impl_FastestFree.f l0 = some (r1, r2)) :
  Calls Tryd.prog 37 #[.slice A0 l0.length c0] w fun e w' => e = .returned (.tuple #[.int .i64 r1, .bool r2]) ∧ Below w.heap.size w w' := by
 have hu_ := Tryd.underlying26
 have hfd_ : ∀ (q0 : Int) (q1 : ByteArray) (q2 : Int) (q3 : Int) (q4 : Int) (W : World), Sem.run Tryd.prog (Instr.field 26 (.agg #[.int .i64 q0, .string q1, .int .i64 q2, .int .i64 q3, .int .i64 q4]) 0) W = .ok (.int .i64 q0) W := fun _ _ _ _ _ _ => by kernel_rfl
 obtain ⟨b, hb, h1⟩ := Option.bind_eq_some_iff.mp h; have HA := aM (impl_AreWeavers.calls A0 c0 l0 b w Ab Ac hb); have Ae := Aside0.mk Ab; have Af := Aside0.mk Ac; clear h hb Ab Ac; cases b with
 | false =>
  rw [if_neg (by decide)] at h1; obtain ⟨rfl, rfl⟩ := Prod.mk.inj (Option.some.inj h1); clear h1
  go_enter Tryd.func37, Tryd.ntmps37
  go_wp2_with fail
  refine HA.out.mono ?_; rintro e w1 ⟨rfl, hb⟩
  go_wp2
  go_ret2
  exact ⟨Z57, hb⟩
 | true =>
  rw [if_pos rfl] at h1
  by_cases hl : l0.length ≤ 1000000
  case neg => rw [if_neg hl] at h1; cases h1
  rw [if_pos hl] at h1; have HL := Aside0.mk hl; have HCL : Aside0 (∀ W, Below w.heap.size w W → _) := ⟨fun W hW => slices_Clone_wv.calls A0 c0 l0 l0 W (Kd.C_below Ae.out hW) Af.out (by unfold slices_Clone_wv.f; rw [if_pos (by omega)])⟩; have HD : Aside0 (∀ (w1 w2 : World) (v : Value), Below w1.heap.size w1 w2 → Kd.R k26 26 w2 w1.heap.size (fun _ => True) v l0 → _) := ⟨fun w1 w2 v hb hR => DeleteFunc_wv delF 79 #[] v l0 w1 w2 hb hR HL.out (enters_of Tryd.func79 Z32 rfl) (fun W x _ => FastestFree_1 x W)⟩; obtain ⟨fr, hfr⟩ : ∃ fr, fr = freeW l0 := ⟨_, rfl⟩; rw [← hfr] at h1; have HFR := aM (show (l0.filter fun x => !delF x) = fr from hfr.symm); clear hl hfr
  by_cases hz : fr.length = 0
  ·rw [if_pos hz] at h1
   obtain ⟨rfl, rfl⟩ := Prod.mk.inj (Option.some.inj h1); have z0 : ((fr.length : Int) == 0) = true := beq_iff_eq.2 (by omega); clear h1 hz
   go_enter Tryd.func37, Tryd.ntmps37
   go_wp2_with fail
   refine HA.out.mono ?_; rintro e w1 ⟨rfl, hb⟩; have Aa := Aside0.mk hb; clear hb
   go_wp2_with fail
   refine (HCL.out w1 Aa.out).mono ?_; rintro e w2 ⟨v2, rfl, hR, hb⟩; have hd := HD.out w1 w2 v2 hb hR; rw [HFR.out] at hd; have HD2 := Aside0.mk hd; clear hd hR hb
   go_wp2_with fail
   refine HD2.out.mono ?_; rintro e w3 ⟨v3, rfl, hR, hb⟩; obtain ⟨A3, c3, rfl⟩ := Kd.R_slice hR; have Ad := aM (below_step Aa.out hb); clear hR hb
   go_wp2
   go_ret2
   exact ⟨Z57, Ad.out⟩
  ·rw [if_neg hz] at h1
   obtain ⟨rfl, rfl⟩ := Prod.mk.inj (Option.some.inj h1); have z0 : ((fr.length : Int) == 0) = false := beq_eq_false_iff_ne.2 (by omega); have HM : Aside0 (∀ (W : World) (A : Option Addr) (c : Nat), Kd.C k26 W A fr.length fr → _) := ⟨fun W A c hC => MinFunc_wv impl_FastestFree_2.of 81 #[] A c fr W (by omega) (enters_of Tryd.func81 Z32 rfl) hC (fun W2 x y _ => impl_FastestFree_2.any x y W2)⟩; clear h1 hz
   go_enter Tryd.func37, Tryd.ntmps37
   go_wp2_with fail
   refine HA.out.mono ?_; rintro e w1 ⟨rfl, hb⟩; have Aa := Aside0.mk hb; clear hb
   go_wp2_with fail
   refine (HCL.out w1 Aa.out).mono ?_; rintro e w2 ⟨v2, rfl, hR, hb⟩; have hd := HD.out w1 w2 v2 hb hR; rw [HFR.out] at hd; have HD2 := Aside0.mk hd; clear hd hR hb
   go_wp2_with fail
   refine HD2.out.mono ?_; rintro e w3 ⟨v3, rfl, hR, hb⟩; obtain ⟨A3, c3, rfl⟩ := Kd.R_slice hR; have Ad := aM (below_step Aa.out hb); have hm := HM.out w3 A3 c3 (Kd.R_reads' hR).2.2; have Ag := Aside0.mk hm; clear hR hb hm
   go_wp2_with fail
   refine Ag.out.mono ?_; rintro e w4 ⟨rfl, hb⟩; have Ah := aM (below_step Ad.out hb); clear hb
   go_wp2
   go_ret2
   exact ⟨Z57, Ah.out⟩
def spec_l11Find.l0 : Nat → List (S26) → Int → Int → Option (Int)
 | 0, _, _, _ => none
 | k + 1, x0, x1, x5 => if x5 < (x0.length : Int) then (if 0 ≤ x5 then (if ((rd_T26 x0 x5).f0) = x1 then (some x5) else (spec_l11Find.l0 k x0 x1 (wrap64 (x5 + 1)))) else (none)) else (some (-1))
def spec_l11Find.f (k : Nat) (l0 : List (S26)) (a1 : Int) : Option (Int) := spec_l11Find.l0 k l0 a1 0
theorem spec_l11Find.calls (k : Nat) (A0 : Option Addr) (c0 : Nat) (l0 : List (S26)) (a1 : Int) (r : Int) (w : World) (Ai : Kd.C k26 w A0 l0.length l0) (Aj : l0.length ≤ c0) (h : spec_l11Find.f k l0 a1 = some r) :
  Calls Tryd.prog 83 #[.slice A0 l0.length c0, .int .i64 a1] w fun e w' => e = .returned (.int .i64 r) ∧ Drawn0 w w' := by
 have Ak := Aside0.mk Ai; have Al := Aside0.mk Aj; clear Ai Aj; have H : (spec_l11Find.l0 k l0 a1 0) = some r := h; clear h; have H' := Aside0.mk H; clear H
 go_enter Tryd.func83, Tryd.ntmps83
 go_wp2
 go_loopg [5] k (fun kq v5 w' => ∃ (Aa : Int), v5 = .int .i64 Aa ∧ Aside0 (spec_l11Find.l0 kq l0 a1 Aa = some r) ∧ Aside0 (kq ≤ k) ∧ Drawn0 w w')
 case atStart => exact ⟨(0), Z15, H', ⟨Nat.le_refl _⟩, Z26⟩
 case round =>
  clear H'; (try clear p2); obtain ⟨Aa, rfl, HA, HK1, ⟨m1, rfl⟩⟩ := hrel; cases gk with
  | zero => exact absurd HA.out (by simp [spec_l11Find.l0])
  | succ k1 =>
   have H := HA.out; clear HA
   simp only [spec_l11Find.l0] at H
   by_cases c3 : Aa < (l0.length : Int)
   ·rw [if_pos c3] at H
    have c3b0 : decide (Aa < (l0.length : Int)) = true := decide_eq_true c3; clear c3
    by_cases c4 : 0 ≤ Aa
    ·rw [if_pos c4] at H
     have c4b0 : decide (0 ≤ Aa) = true := decide_eq_true c4; clear c4
     by_cases c5 : ((rd_T26 l0 Aa).f0) = a1
     ·rw [if_pos c5] at H
      have c5b0 : (((rd_T26 l0 Aa).f0) == a1) = true := beq_iff_eq.mpr c5; have c5b1 : (((rd_T26 l0 Aa).f0) != a1) = false := bne_eq_false_iff_eq.mpr c5; clear c5; obtain rfl := Option.some.inj H; have Ab : 0 ≤ (Aa : Int) := of_decide_eq_true Z11; have Ac : Aa < (l0.length : Int) := of_decide_eq_true Z11; obtain ⟨ad180, e180, Ad, Ae, Af, Ag, Ah⟩ := at_T26 Ak.out Aa Ab Ac; cases e180; replace Ab := eq_true Ab; replace Ac := eq_true Ac
      go_wp2
      go_ret
      exact ⟨Z15, Z26⟩
     ·rw [if_neg c5] at H
      have c5b0 : (((rd_T26 l0 Aa).f0) == a1) = false := beq_eq_false_iff_ne.mpr c5; have c5b1 : (((rd_T26 l0 Aa).f0) != a1) = true := bne_iff_ne.mpr c5; have H' := Aside0.mk H; clear H; have Ab : 0 ≤ (Aa : Int) := of_decide_eq_true Z11; have Ac : Aa < (l0.length : Int) := of_decide_eq_true Z11; obtain ⟨ad180, e180, Ad, Ae, Af, Ag, Ah⟩ := at_T26 Ak.out Aa Ab Ac; cases e180; replace Ab := eq_true Ab; replace Ac := eq_true Ac
      go_wp2
      go_roundg k1
      case measure => have := HK1.out; omega
      case rel => exact ⟨(wrap64 (Aa + 1)), Z15, H', ⟨Z50⟩, Z26⟩
    ·rw [if_neg c4] at H
     exact absurd H (by simp)
   ·rw [if_neg c3] at H
    have c3b0 : decide (Aa < (l0.length : Int)) = false := decide_eq_false c3; clear c3; obtain rfl := Option.some.inj H
    go_wp2
    go_ret
    exact ⟨Z15, Z26⟩
def spec_l11With.f (k : Nat) (l0 : List (S26)) (a1 : Int) (a2_0 : Int) (a2_1 : ByteArray) (a2_2 : Int) (a2_3 : Int) (a2_4 : Int) : Option ((List (S26)) × Bool) := (some (([] : List (S26)) : List (S26))).bind fun y182 => (if y182.length + l0.length < 2932031007402 then ((some (y182 ++ l0 : List (S26))).bind fun y185 => (if 0 ≤ a1 then (if a1 < (y185.length : Int) then ((some (y185.set (a1 : Int).toNat (⟨a2_0, a2_1, a2_2, a2_3, a2_4⟩ : S26) : List (S26))).bind fun y188 => ((spec_l11Good.f k y188).bind fun t189 => (if t189 = true then (some (y188, true)) else (some ((([] : List (S26))), false))))) else (none)) else (none))) else (none))
theorem spec_l11With.calls (k : Nat) (A0 : Option Addr) (c0 : Nat) (l0 : List (S26)) (a1 : Int) (Ad : Int) (Ae : ByteArray) (Af : Int) (Ag : Int) (Ah : Int) (r1 : List (S26)) (r2 : Bool) (w : World) (C8 : Kd.C k26 w A0 l0.length l0) (C9 : l0.length ≤ c0) (h : spec_l11With.f k l0 a1 Ad Ae Af Ag Ah = some (r1, r2)) :
  Calls Tryd.prog 84 #[.slice A0 l0.length c0, .int .i64 a1, .agg #[.int .i64 Ad, .string Ae, .int .i64 Af, .int .i64 Ag, .int .i64 Ah]] w fun e w' => ∃ v0_ : Value, e = .returned (.tuple #[v0_, .bool r2]) ∧ Kd.R k26 26 w' w.heap.size (fun _ => True) v0_ r1 ∧ Below w.heap.size w w' := by
 have hu26 := Tryd.underlying26; have Da := Aside0.mk C8; have De := Aside0.mk C9; clear C8 C9; have HB := aM (Below.refl w.heap.size w); have H : ((some (([] : List (S26)) : List (S26))).bind fun Ao => (if Ao.length + l0.length < 2932031007402 then ((some (Ao ++ l0 : List (S26))).bind fun Ac => (if 0 ≤ a1 then (if a1 < (Ac.length : Int) then ((some (Ac.set (a1 : Int).toNat (⟨Ad, Ae, Af, Ag, Ah⟩ : S26) : List (S26))).bind fun Aj => ((spec_l11Good.f k Aj).bind fun An => (if An = true then (some (Aj, true)) else (some ((([] : List (S26))), false))))) else (none)) else (none))) else (none))) = some (r1, r2) := h; clear h; obtain ⟨Ao, Ap⟩ : ∃ y_ : List (S26), y_ = (([] : List (S26))) := ⟨_, rfl⟩
 replace H : (if Ao.length + l0.length < 2932031007402 then ((some (Ao ++ l0 : List (S26))).bind fun Ac => (if 0 ≤ a1 then (if a1 < (Ac.length : Int) then ((some (Ac.set (a1 : Int).toNat (⟨Ad, Ae, Af, Ag, Ah⟩ : S26) : List (S26))).bind fun Aj => ((spec_l11Good.f k Aj).bind fun An => (if An = true then (some (Aj, true)) else (some ((([] : List (S26))), false))))) else (none)) else (none))) else (none)) = some (r1, r2) := by first | (rw [Ap]; with_reducible exact H) | (have H2_ := (Option.bind_some _ _).symm.trans H; rw [Ap]; with_reducible exact H2_) | (have H2_ := (Option.bind_some _ _).symm.trans H; with_reducible exact H2_) | with_reducible exact H | (rw [Ap]; exact H) | exact H
 have Av := Aside0.mk Ap; clear Ap
 by_cases c4 : Ao.length + l0.length < 2932031007402
 ·rw [if_pos c4] at H
  have LMc4 := Aside0.mk c4; clear c4; obtain ⟨Ac, Aq⟩ : ∃ y_ : List (S26), y_ = (Ao ++ l0) := ⟨_, rfl⟩
  replace H : (if 0 ≤ a1 then (if a1 < (Ac.length : Int) then ((some (Ac.set (a1 : Int).toNat (⟨Ad, Ae, Af, Ag, Ah⟩ : S26) : List (S26))).bind fun Aj => ((spec_l11Good.f k Aj).bind fun An => (if An = true then (some (Aj, true)) else (some ((([] : List (S26))), false))))) else (none)) else (none)) = some (r1, r2) := by first | (rw [Aq]; with_reducible exact H) | (have H2_ := (Option.bind_some _ _).symm.trans H; rw [Aq]; with_reducible exact H2_) | (have H2_ := (Option.bind_some _ _).symm.trans H; with_reducible exact H2_) | with_reducible exact H | (rw [Aq]; exact H) | exact H
  have Bc := Aside0.mk Aq; clear Aq
  by_cases c5 : 0 ≤ a1
  ·rw [if_pos c5] at H
   have c5b0 : decide (0 ≤ a1) = true := decide_eq_true c5; clear c5
   by_cases c6 : a1 < (Ac.length : Int)
   ·rw [if_pos c6] at H
    have c6b0 : decide (a1 < (Ac.length : Int)) = true := decide_eq_true c6; clear c6; obtain ⟨Aj, Ar⟩ : ∃ y_ : List (S26), y_ = (Ac.set (a1 : Int).toNat (⟨Ad, Ae, Af, Ag, Ah⟩ : S26)) := ⟨_, rfl⟩
    replace H : ((spec_l11Good.f k Aj).bind fun An => (if An = true then (some (Aj, true)) else (some ((([] : List (S26))), false)))) = some (r1, r2) := by first | (rw [Ar]; with_reducible exact H) | (have H2_ := (Option.bind_some _ _).symm.trans H; rw [Ar]; with_reducible exact H2_) | (have H2_ := (Option.bind_some _ _).symm.trans H; with_reducible exact H2_) | with_reducible exact H | (rw [Ar]; exact H) | exact H
    have Bd := Aside0.mk Ar; clear Ar; replace H := Option.bind_eq_some_iff.mp H; obtain ⟨An, Db, H⟩ := H; replace H : (if An = true then (some (Aj, true)) else (some ((([] : List (S26))), false))) = some (r1, r2) := H; have A8 := Aside0.mk Db; clear Db
    by_cases c9 : An = true
    ·subst c9
     have H1 : (some (Aj, true)) = some (r1, r2) := by rw [if_pos rfl] at H; exact H
     clear H; have H := H1; clear H1
     simp only [Option.some.injEq, Prod.mk.injEq] at H
     obtain ⟨rfl, rfl⟩ := H
     go_enter Tryd.func84, Tryd.ntmps84
     go_wp2_with (first | ((with_reducible refine gate_dst (N := 5) rfl ?_); refine bxE 5 #[.int .i64 Ad, .string Ae, .int .i64 Af, .int .i64 Ag, .int .i64 Ah] 26 ?_; intro Ai hg Df hbox hb; have Ab := aM (hbox); have B6 := gwS hg Z0; have Ak := gwS hg Z0; replace HB := hbS Z0 hb; clear hb hbox hg) | ((with_reducible refine gate_dst (N := 9) rfl ?_); refine Kd.R_lit k26 _ 26 ?hg (N := 9) ?hd (xs := ([] : List (S26))) (inner := []) (ok := fun _ => True) (okp := fun _ => True) ?hr ?hp (fun _ hk => hk) trivial (Below.refl _ _) (Nat.le_refl _) (by simp) ?_; (case hd => rfl); (case hg => rfl); (case hr => first | (go_simp; done) | (go_simp; rfl)); (case hp => exact (Reps.none _ _)); intro Bg Dg Az hb hg_ hnew_; clear hg_ hnew_; (first | rw [← Av.out] at Az | (simp only [Int.reduceToNat] at Az; rw [← Av.out] at Az)); have Am := aM (Kd.R_lower (Kd.R_newB Az (g := Ai) (o := .cells #[.int .i64 Ad, .string Ae, .int .i64 Af, .int .i64 Ag, .int .i64 Ah] 26 (0, 0)) Z38) (below_size Z23)); replace Ab := bkB Ab hb; replace HB := hbS Z23 hb; clear hb Az) | ((with_reducible refine gate_builtin (b := .append) (xs := #[.tmp 9, .tmp 10]) rfl ?_); at_builtin; refine Kd.R_append_rows k26 (w0 := w) w.heap.size rfl (.tmp 9) (.tmp 10) 32 26 (.agg #[(.int .i64 0), (.string ⟨#[]⟩), (.int .i64 0), (.int .i64 0), (.int .i64 0)]) 48 rfl Tryd.underlying32 info26 rfl (by decide) (by omega) Bg Ao l0 _ _ _ (fun k_ => k_ ≠ Ai) (fun _ => False) rfl rfl ?aO ?aR (fun _ _ h => h) (fun _ h => h.elim) ?aF ?aB ?aS ?aL ?_; (case aR => repeat (first | exact (Kd.C_below Da.out HB.out) | (with_reducible refine Kd.C_alloc ?_ _) | (with_reducible refine Kd.C_drewN ?_ _) | (with_reducible refine Kd.C_drew ?_))); (case aB => exact Z23); (case aF => exact (fun k_ hk => Kd.freshB (g := Ai) (o := .cells #[.int .i64 Ad, .string Ae, .int .i64 Af, .int .i64 Ag, .int .i64 Ah] 26 (0, 0)) Z38 k_ hk)); (case aO => exact Z98); (case aS => exact (below_size Z23)); (case aL => have := LMc4.out; omega); intro C4 Aw ho hb hg hat; rw [← Bc.out] at ho; replace Ab := aM (blk_grown (g := Ai) (o := .cells #[.int .i64 Ad, .string Ae, .int .i64 Af, .int .i64 Ag, .int .i64 Ah] 26 (0, 0)) Z38 hg (Kd.R_away Am.out (fun _ hk => hk.2))); replace HB := aM (hb); have Aa := aM (ho); clear Am; clear ho hb hg hat; obtain ⟨Ck, Cl, Cm, Cn, Co⟩ := bz5 Ab; obtain ⟨Cp, Cq, Cr, Cs, Ct⟩ := fz5 Ab; have p7 : 0 ≤ (a1 : Int) := of_decide_eq_true Z11; have q7 : (a1 : Int) < ((Ac.length : Int) : Int) := of_decide_eq_true Z11; obtain ⟨Al, Bh, B7, B8, gl7, cl7, HG7⟩ := Kd.R_form Aa.out (by omega); (first | cases B7 | (injection B7 with ea_ en_ ec_; (first | subst ea_ | (injection ea_ with ea_; subst ea_)); subst ec_; clear en_)); have Ba := Aside0.mk B8; have Dc := Aside0.mk HG7; clear B8 gl7 HG7; obtain ⟨ce7, hcl7, hM7, hcc7, hfr7⟩ := Kd.R_elem Aa.out z26 (a1 : Int) p7 q7; obtain rfl := k26_openM hM7; have B9 : Aw.cell? ⟨Al, (a1 : Int).toNat * 5, none⟩ = some (.int .i64 ((rd_T26 Ac a1).f0)) := hcc7 0 _ rfl; have Ca : Aw.cell? ⟨Al, (a1 : Int).toNat * 5 + 1, none⟩ = some (.string ((rd_T26 Ac a1).f1)) := hcc7 1 _ rfl; have Cb : Aw.cell? ⟨Al, (a1 : Int).toNat * 5 + 2, none⟩ = some (.int .i64 ((rd_T26 Ac a1).f2)) := hcc7 2 _ rfl; have Cc : Aw.cell? ⟨Al, (a1 : Int).toNat * 5 + 3, none⟩ = some (.int .i64 ((rd_T26 Ac a1).f3)) := hcc7 3 _ rfl; have Cd : Aw.cell? ⟨Al, (a1 : Int).toNat * 5 + 4, none⟩ = some (.int .i64 ((rd_T26 Ac a1).f4)) := hcc7 4 _ rfl; have Ce : Aw.frozen? ⟨Al, (a1 : Int).toNat * 5, none⟩ = false := hfr7 0; have Cf : Aw.frozen? ⟨Al, (a1 : Int).toNat * 5 + 1, none⟩ = false := hfr7 1; have Cg : Aw.frozen? ⟨Al, (a1 : Int).toNat * 5 + 2, none⟩ = false := hfr7 2; have Ch : Aw.frozen? ⟨Al, (a1 : Int).toNat * 5 + 3, none⟩ = false := hfr7 3; have Ci : Aw.frozen? ⟨Al, (a1 : Int).toNat * 5 + 4, none⟩ = false := hfr7 4; clear hcl7 hcc7 hfr7 hM7; replace p7 := eq_true p7; replace q7 := eq_true q7; have HX15 := aM (show Kd.R k26 26 Aw w.heap.size (fun k_ => k_ ≠ Ai) (.slice (some ⟨Al, 0, none⟩) Ac.length Bh) Ac from Z45); obtain ⟨ce15, hcl15, hM15, hcc15, hfr15⟩ := Kd.R_elem HX15.out z26 (a1 : Int) (of_decide_eq_true Z11) Z120; obtain rfl := k26_openM hM15; have Bi := Kd.R_seg HX15.out (a1 : Int) (of_decide_eq_true Z11) Z120 (seg := [.int .i64 Ad, .string Ae, .int .i64 Af, .int .i64 Ag, .int .i64 Ah]) (j := 0) hcl15 hcc15 (show 5 ≤ 5 from by decide) (x' := (⟨Ad, Ae, Af, Ag, Ah⟩ : S26)) (k26_mkM _ _ _ (⟨Ad, Ae, Af, Ag, Ah⟩ : S26) ) (fun _ hk => hk); have Bj := hcc15 0 _ rfl; (try simp only [show (k26).sz = 5 from rfl, Nat.mul_one, Nat.add_zero] at Bj); have Bk := hfr15 0; (try simp only [show (k26).sz = 5 from rfl, Nat.mul_one, Nat.add_zero] at Bk); have Bl := hcc15 1 _ rfl; (try simp only [show (k26).sz = 5 from rfl, Nat.mul_one, Nat.add_zero] at Bl); have Bm := hfr15 1; (try simp only [show (k26).sz = 5 from rfl, Nat.mul_one, Nat.add_zero] at Bm); have Bn := hcc15 2 _ rfl; (try simp only [show (k26).sz = 5 from rfl, Nat.mul_one, Nat.add_zero] at Bn); have Bo := hfr15 2; (try simp only [show (k26).sz = 5 from rfl, Nat.mul_one, Nat.add_zero] at Bo); have Bp := hcc15 3 _ rfl; (try simp only [show (k26).sz = 5 from rfl, Nat.mul_one, Nat.add_zero] at Bp); have Bq := hfr15 3; (try simp only [show (k26).sz = 5 from rfl, Nat.mul_one, Nat.add_zero] at Bq); have Br := hcc15 4 _ rfl; (try simp only [show (k26).sz = 5 from rfl, Nat.mul_one, Nat.add_zero] at Br); have Bs := hfr15 4; (try simp only [show (k26).sz = 5 from rfl, Nat.mul_one, Nat.add_zero] at Bs); clear hcl15 hcc15 hfr15 hM15) | ((with_reducible refine gate_store (t := 26) (p := 15) rfl ?_); refine store_event (t := 26) (p := 15) (v := ?vo_w16) (w1 := (((((Aw.setCell ⟨Al, (a1 : Int).toNat * 5, none⟩ (.int .i64 Ad)).setCell ⟨Al, (a1 : Int).toNat * 5 + 1, none⟩ (.string Ae)).setCell ⟨Al, (a1 : Int).toNat * 5 + 2, none⟩ (.int .i64 Af)).setCell ⟨Al, (a1 : Int).toNat * 5 + 3, none⟩ (.int .i64 Ag)).setCell ⟨Al, (a1 : Int).toNat * 5 + 4, none⟩ (.int .i64 Ah))) ?hg ?ho ?hn ?hr ?_; (case ho => rfl); (case hg => rfl); (case hn => rfl); (case hr => first | (go_simp; done) | (go_simp; rfl)); intro C5 hw; have hg : Aw.grownBy C5 (some Al) := (by rw [hw]; exact Bi.2); have hp_ : Kd.R k26 26 C5 w.heap.size (fun k_ => k_ ≠ Ai) (.slice (some ⟨Al, 0, none⟩) Ac.length Bh) Aj := (by rw [hw, Bd.out]; exact Bi.1); clear Bi; replace Ab := aM (blk_grown (g := Ai) (o := .cells #[.int .i64 Ad, .string Ae, .int .i64 Af, .int .i64 Ag, .int .i64 Ah] 26 (0, 0)) Z38 hg (Kd.R_away Aa.out (fun _ hk => hk))); replace Aa := aM (hp_); replace HB := aM ((Z100 : Below w.heap.size w C5)); clear hg hw hp_) | ((with_reducible refine gate_callee (f := 61) rfl ?_); refine goesL_ (some 17) rfl rfl Tryd.func61 Z32 rfl #[.slice (some ⟨Al, 0, none⟩) Aj.length Bh] rfl Z66 ?_; (with_reducible refine (spec_l11Good.calls k _ _ Aj true _ ?side1 ?side2 A8.out).mono ?_); (case side1 => exact Z78); (case side2 => exact Z104); rintro e Dh ⟨rfl, hb⟩; refine ⟨_, rfl, ?_⟩; replace Aa := roB Aa hb; replace Ab := bkB Ab hb; replace HB := hbS Z23 hb; (try clear hb)))
     go_ret2
     exact ⟨_, Z13, by (with_reducible repeat (first | apply Kd.R_alloc | apply Kd.R_drewN | apply Kd.R_drew)); exact Kd.R_mono Aa.out (fun _ hk => trivial), Z23⟩
    ·replace c9 := Bool.eq_false_iff.mpr c9
     subst c9
     have H1 : (some ((([] : List (S26))), false)) = some (r1, r2) := by rw [if_neg (show ¬ (false = true) by decide)] at H; exact H
     clear H; have H := H1; clear H1; obtain ⟨C6, Au⟩ : ∃ y_ : List (S26), y_ = (([] : List (S26))) := ⟨_, rfl⟩
     replace H : (some (C6, false)) = some (r1, r2) := by first | (rw [Au]; with_reducible exact H) | (have H2_ := (Option.bind_some _ _).symm.trans H; rw [Au]; with_reducible exact H2_) | (have H2_ := (Option.bind_some _ _).symm.trans H; with_reducible exact H2_) | with_reducible exact H | (rw [Au]; exact H) | exact H
     have Bf := Aside0.mk Au; clear Au
     simp only [Option.some.injEq, Prod.mk.injEq] at H
     obtain ⟨rfl, rfl⟩ := H
     go_enter Tryd.func84, Tryd.ntmps84
     go_wp2_with (first | ((with_reducible refine gate_dst (N := 5) rfl ?_); refine bxE 5 #[.int .i64 Ad, .string Ae, .int .i64 Af, .int .i64 Ag, .int .i64 Ah] 26 ?_; intro Ai hg Di hbox hb; have Ab := aM (hbox); have B6 := gwS hg Z0; have Ak := gwS hg Z0; replace HB := hbS Z0 hb; clear hb hbox hg) | ((with_reducible refine gate_dst (N := 9) rfl ?_); refine Kd.R_lit k26 _ 26 ?hg (N := 9) ?hd (xs := ([] : List (S26))) (inner := []) (ok := fun _ => True) (okp := fun _ => True) ?hr ?hp (fun _ hk => hk) trivial (Below.refl _ _) (Nat.le_refl _) (by simp) ?_; (case hd => rfl); (case hg => rfl); (case hr => first | (go_simp; done) | (go_simp; rfl)); (case hp => exact (Reps.none _ _)); intro Bg Dj Bb hb hg_ hnew_; clear hg_ hnew_; (first | rw [← Av.out] at Bb | (simp only [Int.reduceToNat] at Bb; rw [← Av.out] at Bb)); have Am := aM (Kd.R_lower (Kd.R_newB Bb (g := Ai) (o := .cells #[.int .i64 Ad, .string Ae, .int .i64 Af, .int .i64 Ag, .int .i64 Ah] 26 (0, 0)) Z38) (below_size Z23)); replace Ab := bkB Ab hb; replace HB := hbS Z23 hb; clear hb Bb) | ((with_reducible refine gate_builtin (b := .append) (xs := #[.tmp 9, .tmp 10]) rfl ?_); at_builtin; refine Kd.R_append_rows k26 (w0 := w) w.heap.size rfl (.tmp 9) (.tmp 10) 32 26 (.agg #[(.int .i64 0), (.string ⟨#[]⟩), (.int .i64 0), (.int .i64 0), (.int .i64 0)]) 48 rfl Tryd.underlying32 info26 rfl (by decide) (by omega) Bg Ao l0 _ _ _ (fun k_ => k_ ≠ Ai) (fun _ => False) rfl rfl ?aO ?aR (fun _ _ h => h) (fun _ h => h.elim) ?aF ?aB ?aS ?aL ?_; (case aR => repeat (first | exact (Kd.C_below Da.out HB.out) | (with_reducible refine Kd.C_alloc ?_ _) | (with_reducible refine Kd.C_drewN ?_ _) | (with_reducible refine Kd.C_drew ?_))); (case aB => exact Z23); (case aF => exact (fun k_ hk => Kd.freshB (g := Ai) (o := .cells #[.int .i64 Ad, .string Ae, .int .i64 Af, .int .i64 Ag, .int .i64 Ah] 26 (0, 0)) Z38 k_ hk)); (case aO => exact Z98); (case aS => exact (below_size Z23)); (case aL => have := LMc4.out; omega); intro C4 Ax ho hb hg hat; rw [← Bc.out] at ho; replace Ab := aM (blk_grown (g := Ai) (o := .cells #[.int .i64 Ad, .string Ae, .int .i64 Af, .int .i64 Ag, .int .i64 Ah] 26 (0, 0)) Z38 hg (Kd.R_away Am.out (fun _ hk => hk.2))); replace HB := aM (hb); have Aa := aM (ho); clear Am; clear ho hb hg hat; obtain ⟨Cu, Cv, Cw, Cx, Cy⟩ := bz5 Ab; obtain ⟨Cz, C0, C1, C2, C3⟩ := fz5 Ab; have p7 : 0 ≤ (a1 : Int) := of_decide_eq_true Z11; have q7 : (a1 : Int) < ((Ac.length : Int) : Int) := of_decide_eq_true Z11; obtain ⟨Al, Bh, B7, B8, gl7, cl7, HG7⟩ := Kd.R_form Aa.out (by omega); (first | cases B7 | (injection B7 with ea_ en_ ec_; (first | subst ea_ | (injection ea_ with ea_; subst ea_)); subst ec_; clear en_)); have Ba := Aside0.mk B8; have Dc := Aside0.mk HG7; clear B8 gl7 HG7; obtain ⟨ce7, hcl7, hM7, hcc7, hfr7⟩ := Kd.R_elem Aa.out z26 (a1 : Int) p7 q7; obtain rfl := k26_openM hM7; have B9 : Ax.cell? ⟨Al, (a1 : Int).toNat * 5, none⟩ = some (.int .i64 ((rd_T26 Ac a1).f0)) := hcc7 0 _ rfl; have Ca : Ax.cell? ⟨Al, (a1 : Int).toNat * 5 + 1, none⟩ = some (.string ((rd_T26 Ac a1).f1)) := hcc7 1 _ rfl; have Cb : Ax.cell? ⟨Al, (a1 : Int).toNat * 5 + 2, none⟩ = some (.int .i64 ((rd_T26 Ac a1).f2)) := hcc7 2 _ rfl; have Cc : Ax.cell? ⟨Al, (a1 : Int).toNat * 5 + 3, none⟩ = some (.int .i64 ((rd_T26 Ac a1).f3)) := hcc7 3 _ rfl; have Cd : Ax.cell? ⟨Al, (a1 : Int).toNat * 5 + 4, none⟩ = some (.int .i64 ((rd_T26 Ac a1).f4)) := hcc7 4 _ rfl; have Ce : Ax.frozen? ⟨Al, (a1 : Int).toNat * 5, none⟩ = false := hfr7 0; have Cf : Ax.frozen? ⟨Al, (a1 : Int).toNat * 5 + 1, none⟩ = false := hfr7 1; have Cg : Ax.frozen? ⟨Al, (a1 : Int).toNat * 5 + 2, none⟩ = false := hfr7 2; have Ch : Ax.frozen? ⟨Al, (a1 : Int).toNat * 5 + 3, none⟩ = false := hfr7 3; have Ci : Ax.frozen? ⟨Al, (a1 : Int).toNat * 5 + 4, none⟩ = false := hfr7 4; clear hcl7 hcc7 hfr7 hM7; replace p7 := eq_true p7; replace q7 := eq_true q7; have HX23 := aM (show Kd.R k26 26 Ax w.heap.size (fun k_ => k_ ≠ Ai) (.slice (some ⟨Al, 0, none⟩) Ac.length Bh) Ac from Z45); obtain ⟨ce23, hcl23, hM23, hcc23, hfr23⟩ := Kd.R_elem HX23.out z26 (a1 : Int) (of_decide_eq_true Z11) Z120; obtain rfl := k26_openM hM23; have Bt := Kd.R_seg HX23.out (a1 : Int) (of_decide_eq_true Z11) Z120 (seg := [.int .i64 Ad, .string Ae, .int .i64 Af, .int .i64 Ag, .int .i64 Ah]) (j := 0) hcl23 hcc23 (show 5 ≤ 5 from by decide) (x' := (⟨Ad, Ae, Af, Ag, Ah⟩ : S26)) (k26_mkM _ _ _ (⟨Ad, Ae, Af, Ag, Ah⟩ : S26) ) (fun _ hk => hk); have Bu := hcc23 0 _ rfl; (try simp only [show (k26).sz = 5 from rfl, Nat.mul_one, Nat.add_zero] at Bu); have Bv := hfr23 0; (try simp only [show (k26).sz = 5 from rfl, Nat.mul_one, Nat.add_zero] at Bv); have Bw := hcc23 1 _ rfl; (try simp only [show (k26).sz = 5 from rfl, Nat.mul_one, Nat.add_zero] at Bw); have Bx := hfr23 1; (try simp only [show (k26).sz = 5 from rfl, Nat.mul_one, Nat.add_zero] at Bx); have Bz := hcc23 2 _ rfl; (try simp only [show (k26).sz = 5 from rfl, Nat.mul_one, Nat.add_zero] at Bz); have B0 := hfr23 2; (try simp only [show (k26).sz = 5 from rfl, Nat.mul_one, Nat.add_zero] at B0); have B1 := hcc23 3 _ rfl; (try simp only [show (k26).sz = 5 from rfl, Nat.mul_one, Nat.add_zero] at B1); have B2 := hfr23 3; (try simp only [show (k26).sz = 5 from rfl, Nat.mul_one, Nat.add_zero] at B2); have B3 := hcc23 4 _ rfl; (try simp only [show (k26).sz = 5 from rfl, Nat.mul_one, Nat.add_zero] at B3); have B4 := hfr23 4; (try simp only [show (k26).sz = 5 from rfl, Nat.mul_one, Nat.add_zero] at B4); clear hcl23 hcc23 hfr23 hM23) | ((with_reducible refine gate_store (t := 26) (p := 15) rfl ?_); refine store_event (t := 26) (p := 15) (v := ?vo_w24) (w1 := (((((Ax.setCell ⟨Al, (a1 : Int).toNat * 5, none⟩ (.int .i64 Ad)).setCell ⟨Al, (a1 : Int).toNat * 5 + 1, none⟩ (.string Ae)).setCell ⟨Al, (a1 : Int).toNat * 5 + 2, none⟩ (.int .i64 Af)).setCell ⟨Al, (a1 : Int).toNat * 5 + 3, none⟩ (.int .i64 Ag)).setCell ⟨Al, (a1 : Int).toNat * 5 + 4, none⟩ (.int .i64 Ah))) ?hg ?ho ?hn ?hr ?_; (case ho => rfl); (case hg => rfl); (case hn => rfl); (case hr => first | (go_simp; done) | (go_simp; rfl)); intro C7 hw; have hg : Ax.grownBy C7 (some Al) := (by rw [hw]; exact Bt.2); have hp_ : Kd.R k26 26 C7 w.heap.size (fun k_ => k_ ≠ Ai) (.slice (some ⟨Al, 0, none⟩) Ac.length Bh) Aj := (by rw [hw, Bd.out]; exact Bt.1); clear Bt; replace Ab := aM (blk_grown (g := Ai) (o := .cells #[.int .i64 Ad, .string Ae, .int .i64 Af, .int .i64 Ag, .int .i64 Ah] 26 (0, 0)) Z38 hg (Kd.R_away Aa.out (fun _ hk => hk))); replace Aa := aM (hp_); replace HB := aM ((Z100 : Below w.heap.size w C7)); clear hg hw hp_) | ((with_reducible refine gate_callee (f := 61) rfl ?_); refine goesL_ (some 17) rfl rfl Tryd.func61 Z32 rfl #[.slice (some ⟨Al, 0, none⟩) Aj.length Bh] rfl Z66 ?_; (with_reducible refine (spec_l11Good.calls k _ _ Aj false _ ?side1 ?side2 A8.out).mono ?_); (case side1 => exact Z78); (case side2 => exact Z104); rintro e Dk ⟨rfl, hb⟩; refine ⟨_, rfl, ?_⟩; replace Aa := roB Aa hb; replace Ab := bkB Ab hb; replace HB := hbS Z23 hb; (try clear hb)) | ((with_reducible refine gate_dst (N := 19) rfl ?_); refine Kd.R_lit k26 _ 26 ?hg (N := 19) ?hd (xs := ([] : List (S26))) (inner := []) (ok := fun _ => True) (okp := fun _ => True) ?hr ?hp (fun _ hk => hk) trivial (Below.refl _ _) (Nat.le_refl _) (by simp) ?_; (case hd => rfl); (case hg => rfl); (case hr => first | (go_simp; done) | (go_simp; rfl)); (case hp => exact (Reps.none _ _)); intro Dd Dl Ay hb hg_ hnew_; clear hg_ hnew_; (first | rw [← Bf.out] at Ay | (simp only [Int.reduceToNat] at Ay; rw [← Bf.out] at Ay)); have Cj := aM (Kd.R_lower (Kd.R_newB (Kd.R_new' Ay (Kd.R_lt Z45)) (g := Ai) (o := .cells #[.int .i64 Ad, .string Ae, .int .i64 Af, .int .i64 Ag, .int .i64 Ah] 26 (0, 0)) Z38) (below_size Z23)); replace Aa := aM (Kd.R_elder' Z45 (Kd.R_base Ay) hb); replace Ab := bkB Ab hb; replace HB := hbS Z23 hb; clear hb Ay))
     go_ret2
     exact ⟨_, Z13, by (with_reducible repeat (first | apply Kd.R_alloc | apply Kd.R_drewN | apply Kd.R_drew)); exact Kd.R_mono Cj.out (fun _ hk => trivial), Z23⟩
   ·rw [if_neg c6] at H
    exact absurd H (by simp)
  ·rw [if_neg c5] at H
   exact absurd H (by simp)
 ·rw [if_neg c4] at H
  exact absurd H (by simp)
def spec_SeatWeaver.f (k : Nat) (l0 : List (S26)) (a1 : Int) (a2 : Int) : Option ((List (S26)) × Bool) := (spec_l11Find.f k l0 a1).bind fun t193 => ((spec_l11Good.f k l0).bind fun t194 => (if t194 = true then (if t193 < 0 then (some ((([] : List (S26))), false)) else (if 0 ≤ t193 then (if t193 < (l0.length : Int) then ((spec_l11With.f k l0 t193 ((rd_T26 l0 t193).f0) ((rd_T26 l0 t193).f1) ((rd_T26 l0 t193).f2) ((rd_T26 l0 t193).f3) a2).bind fun bt200 => (some (bt200.1, bt200.2))) else (none)) else (none))) else (some ((([] : List (S26))), false))))
theorem spec_SeatWeaver.calls (k : Nat) (A0 : Option Addr) (c0 : Nat) (l0 : List (S26)) (a1 : Int) (a2 : Int) (r1 : List (S26)) (r2 : Bool) (w : World) (Bf : Kd.C k26 w A0 l0.length l0) (Bg : l0.length ≤ c0) (h : spec_SeatWeaver.f k l0 a1 a2 = some (r1, r2)) :
  Calls Tryd.prog 38 #[.slice A0 l0.length c0, .int .i64 a1, .int .i64 a2] w fun e w' => ∃ v0_ : Value, e = .returned (.tuple #[v0_, .bool r2]) ∧ Kd.R k26 26 w' w.heap.size (fun _ => True) v0_ r1 ∧ Below w.heap.size w w' := by
 have hu26 := Tryd.underlying26; have Am := Aside0.mk Bf; have Ap := Aside0.mk Bg; clear Bf Bg; have HB := aM (Below.refl w.heap.size w); have H : ((spec_l11Find.f k l0 a1).bind fun Aa => ((spec_l11Good.f k l0).bind fun Aj => (if Aj = true then (if Aa < 0 then (some ((([] : List (S26))), false)) else (if 0 ≤ Aa then (if Aa < (l0.length : Int) then ((spec_l11With.f k l0 Aa ((rd_T26 l0 Aa).f0) ((rd_T26 l0 Aa).f1) ((rd_T26 l0 Aa).f2) ((rd_T26 l0 Aa).f3) a2).bind fun Ab => (some (Ab.1, Ab.2))) else (none)) else (none))) else (some ((([] : List (S26))), false))))) = some (r1, r2) := h; clear h; replace H := Option.bind_eq_some_iff.mp H; obtain ⟨Aa, Bh, H⟩ := H; replace H : ((spec_l11Good.f k l0).bind fun Aj => (if Aj = true then (if Aa < 0 then (some ((([] : List (S26))), false)) else (if 0 ≤ Aa then (if Aa < (l0.length : Int) then ((spec_l11With.f k l0 Aa ((rd_T26 l0 Aa).f0) ((rd_T26 l0 Aa).f1) ((rd_T26 l0 Aa).f2) ((rd_T26 l0 Aa).f3) a2).bind fun Ab => (some (Ab.1, Ab.2))) else (none)) else (none))) else (some ((([] : List (S26))), false)))) = some (r1, r2) := H; have A4 := Aside0.mk Bh; clear Bh; replace H := Option.bind_eq_some_iff.mp H; obtain ⟨Aj, Bi, H⟩ := H; replace H : (if Aj = true then (if Aa < 0 then (some ((([] : List (S26))), false)) else (if 0 ≤ Aa then (if Aa < (l0.length : Int) then ((spec_l11With.f k l0 Aa ((rd_T26 l0 Aa).f0) ((rd_T26 l0 Aa).f1) ((rd_T26 l0 Aa).f2) ((rd_T26 l0 Aa).f3) a2).bind fun Ab => (some (Ab.1, Ab.2))) else (none)) else (none))) else (some ((([] : List (S26))), false))) = some (r1, r2) := H; have A5 := Aside0.mk Bi; clear Bi
 by_cases c6 : Aj = true
 ·subst c6
  have H1 : (if Aa < 0 then (some ((([] : List (S26))), false)) else (if 0 ≤ Aa then (if Aa < (l0.length : Int) then ((spec_l11With.f k l0 Aa ((rd_T26 l0 Aa).f0) ((rd_T26 l0 Aa).f1) ((rd_T26 l0 Aa).f2) ((rd_T26 l0 Aa).f3) a2).bind fun Ab => (some (Ab.1, Ab.2))) else (none)) else (none))) = some (r1, r2) := by rw [if_pos rfl] at H; exact H
  clear H; have H := H1; clear H1
  by_cases c7 : Aa < 0
  ·rw [if_pos c7] at H
   have c7b0 : decide (Aa < 0) = true := decide_eq_true c7; clear c7; obtain ⟨Bc, Ah⟩ : ∃ y_ : List (S26), y_ = (([] : List (S26))) := ⟨_, rfl⟩
   replace H : (some (Bc, false)) = some (r1, r2) := by first | (rw [Ah]; with_reducible exact H) | (have H2_ := (Option.bind_some _ _).symm.trans H; rw [Ah]; with_reducible exact H2_) | (have H2_ := (Option.bind_some _ _).symm.trans H; with_reducible exact H2_) | with_reducible exact H | (rw [Ah]; exact H) | exact H
   have An := Aside0.mk Ah; clear Ah
   simp only [Option.some.injEq, Prod.mk.injEq] at H
   obtain ⟨rfl, rfl⟩ := H
   go_enter Tryd.func38, Tryd.ntmps38
   go_wp2_with (first | ((with_reducible refine gate_callee (f := 83) rfl ?_); refine glE (some 14) Tryd.func83 #[.slice A0 l0.length c0, .int .i64 a1] ?_; (with_reducible refine (spec_l11Find.calls k _ _ l0 a1 Aa _ ?side1 ?side2 A4.out).mono ?_); (case side1 => exact Z42); (case side2 => exact Ap.out); rintro e w' ⟨rfl, ⟨nd, rfl⟩⟩; refine ⟨_, rfl, ?_⟩) | ((with_reducible refine gate_callee (f := 61) rfl ?_); refine glE (some 16) Tryd.func61 #[.slice A0 l0.length c0] ?_; (with_reducible refine (spec_l11Good.calls k _ _ l0 true _ ?side1 ?side2 A5.out).mono ?_); (case side1 => exact Z42); (case side2 => exact Ap.out); rintro e w8 ⟨rfl, hb⟩; refine ⟨_, rfl, ?_⟩; replace HB := hbS Z0 hb; (try clear hb)) | ((with_reducible refine gate_dst (N := 22) rfl ?_); refine Kd.R_lit k26 _ 26 ?hg (N := 22) ?hd (xs := ([] : List (S26))) (inner := []) (ok := fun _ => True) (okp := fun _ => True) ?hr ?hp (fun _ hk => hk) trivial (Below.refl _ _) (Nat.le_refl _) (by simp) ?_; (case hd => rfl); (case hg => rfl); (case hr => first | (go_simp; done) | (go_simp; rfl)); (case hp => exact (Reps.none _ _)); intro Bk w9 Ak hb hg_ hnew_; clear hg_ hnew_; (first | rw [← An.out] at Ak | (simp only [Int.reduceToNat] at Ak; rw [← An.out] at Ak)); have Au := aM (Kd.R_lower Ak (below_size Z0)); replace HB := hbS Z0 hb; clear hb Ak))
   go_ret2
   exact ⟨_, Z13, by (with_reducible repeat (first | apply Kd.R_alloc | apply Kd.R_drewN | apply Kd.R_drew)); exact Au.out, Z0⟩
  ·rw [if_neg c7] at H
   have c7b0 : decide (Aa < 0) = false := decide_eq_false c7; clear c7
   by_cases Ba : 0 ≤ Aa
   ·rw [if_pos Ba] at H
    have c11b0 : decide (0 ≤ Aa) = true := decide_eq_true Ba; clear Ba
    by_cases Bb : Aa < (l0.length : Int)
    ·rw [if_pos Bb] at H
     have c12b0 : decide (Aa < (l0.length : Int)) = true := decide_eq_true Bb; clear Bb; replace H := Option.bind_eq_some_iff.mp H; obtain ⟨⟨Av, Aw⟩, Ax, H⟩ := H; replace H : (some (Av, Aw)) = some (r1, r2) := H; have Bl := Aside0.mk Ax; clear Ax
     simp only [Option.some.injEq, Prod.mk.injEq] at H
     obtain ⟨rfl, rfl⟩ := H
     go_enter Tryd.func38, Tryd.ntmps38
     go_wp2_with (first | ((with_reducible refine gate_callee (f := 83) rfl ?_); refine glE (some 14) Tryd.func83 #[.slice A0 l0.length c0, .int .i64 a1] ?_; (with_reducible refine (spec_l11Find.calls k _ _ l0 a1 Aa _ ?side1 ?side2 A4.out).mono ?_); (case side1 => exact Z42); (case side2 => exact Ap.out); rintro e w' ⟨rfl, ⟨nd, rfl⟩⟩; refine ⟨_, rfl, ?_⟩) | ((with_reducible refine gate_callee (f := 61) rfl ?_); refine glE (some 16) Tryd.func61 #[.slice A0 l0.length c0] ?_; (with_reducible refine (spec_l11Good.calls k _ _ l0 true _ ?side1 ?side2 A5.out).mono ?_); (case side1 => exact Z42); (case side2 => exact Ap.out); rintro e Bo ⟨rfl, hb⟩; refine ⟨_, rfl, ?_⟩; replace HB := hbS Z0 hb; (try clear hb); have Aq : 0 ≤ (Aa : Int) := of_decide_eq_true Z11; have Ar : Aa < (l0.length : Int) := of_decide_eq_true Z11; obtain ⟨ad198, e198, Ac, Ad, Ae, Af, Ag⟩ := at_T26 Am.out Aa Aq Ar; cases e198; replace Ac := (HB.out.cell (World.block_lt_of_cell? w _ Ac)).trans Ac; replace Ad := (HB.out.cell (World.block_lt_of_cell? w _ Ad)).trans Ad; replace Ae := (HB.out.cell (World.block_lt_of_cell? w _ Ae)).trans Ae; replace Af := (HB.out.cell (World.block_lt_of_cell? w _ Af)).trans Af; replace Ag := (HB.out.cell (World.block_lt_of_cell? w _ Ag)).trans Ag; replace Aq := eq_true Aq; replace Ar := eq_true Ar) | ((with_reducible refine gate_callee (f := 84) rfl ?_); refine glE (some 33) Tryd.func84 #[.slice (some ad198) l0.length c0, .int .i64 Aa, .agg #[.int .i64 ((rd_T26 l0 Aa).f0), .string ((rd_T26 l0 Aa).f1), .int .i64 ((rd_T26 l0 Aa).f2), .int .i64 ((rd_T26 l0 Aa).f3), .int .i64 a2]] ?_; (with_reducible refine (spec_l11With.calls k _ _ l0 Aa ((rd_T26 l0 Aa).f0) ((rd_T26 l0 Aa).f1) ((rd_T26 l0 Aa).f2) ((rd_T26 l0 Aa).f3) a2 Av Aw _ ?side1 ?side2 Bl.out).mono ?_); (case side1 => exact Kd.C_below Am.out Z51); (case side2 => exact Ap.out); rintro e Bp ⟨Bm, rfl, Bj, hb⟩; refine ⟨_, rfl, ?_⟩; have n0_ := aM (Kd.R_lower Bj (below_size Z51)); have n2_ := aM (below_step Z51 hb); clear HB; have Ay := n0_; have HB := n2_; clear n0_ n2_; (try clear hb); (try clear Bj)))
     go_ret2
     exact ⟨_, Z13, by (with_reducible repeat (first | apply Kd.R_alloc | apply Kd.R_drewN | apply Kd.R_drew)); exact Kd.R_mono Ay.out (fun _ hk => trivial), Z51⟩
    ·rw [if_neg Bb] at H
     exact absurd H (by simp)
   ·rw [if_neg Ba] at H
    exact absurd H (by simp)
 ·replace c6 := Bool.eq_false_iff.mpr c6
  subst c6
  have H1 : (some ((([] : List (S26))), false)) = some (r1, r2) := by rw [if_neg (show ¬ (false = true) by decide)] at H; exact H
  clear H; have H := H1; clear H1; obtain ⟨Bd, Ai⟩ : ∃ y_ : List (S26), y_ = (([] : List (S26))) := ⟨_, rfl⟩
  replace H : (some (Bd, false)) = some (r1, r2) := by first | (rw [Ai]; with_reducible exact H) | (have H2_ := (Option.bind_some _ _).symm.trans H; rw [Ai]; with_reducible exact H2_) | (have H2_ := (Option.bind_some _ _).symm.trans H; with_reducible exact H2_) | with_reducible exact H | (rw [Ai]; exact H) | exact H
  have Ao := Aside0.mk Ai; clear Ai
  simp only [Option.some.injEq, Prod.mk.injEq] at H
  obtain ⟨rfl, rfl⟩ := H
  go_enter Tryd.func38, Tryd.ntmps38
  go_wp2_with (first | ((with_reducible refine gate_callee (f := 83) rfl ?_); refine glE (some 14) Tryd.func83 #[.slice A0 l0.length c0, .int .i64 a1] ?_; (with_reducible refine (spec_l11Find.calls k _ _ l0 a1 Aa _ ?side1 ?side2 A4.out).mono ?_); (case side1 => exact Z42); (case side2 => exact Ap.out); rintro e w' ⟨rfl, ⟨nd, rfl⟩⟩; refine ⟨_, rfl, ?_⟩) | ((with_reducible refine gate_callee (f := 61) rfl ?_); refine glE (some 16) Tryd.func61 #[.slice A0 l0.length c0] ?_; (with_reducible refine (spec_l11Good.calls k _ _ l0 false _ ?side1 ?side2 A5.out).mono ?_); (case side1 => exact Z42); (case side2 => exact Ap.out); rintro e Bq ⟨rfl, hb⟩; refine ⟨_, rfl, ?_⟩; replace HB := hbS Z0 hb; (try clear hb)) | ((with_reducible refine gate_dst (N := 22) rfl ?_); refine Kd.R_lit k26 _ 26 ?hg (N := 22) ?hd (xs := ([] : List (S26))) (inner := []) (ok := fun _ => True) (okp := fun _ => True) ?hr ?hp (fun _ hk => hk) trivial (Below.refl _ _) (Nat.le_refl _) (by simp) ?_; (case hd => rfl); (case hg => rfl); (case hr => first | (go_simp; done) | (go_simp; rfl)); (case hp => exact (Reps.none _ _)); intro Bn Br Al hb hg_ hnew_; clear hg_ hnew_; (first | rw [← Ao.out] at Al | (simp only [Int.reduceToNat] at Al; rw [← Ao.out] at Al)); have Az := aM (Kd.R_lower Al (below_size Z0)); replace HB := hbS Z0 hb; clear hb Al))
  go_ret2
  exact ⟨_, Z13, Z90, Z0⟩
set_option maxHeartbeats 4000000 in
set_option maxRecDepth 100000 in
theorem findWeaver_1 (b : Nat) (x : S26) (a1 : Int) (W : World) (hc : W.cell? ⟨b, 0, none⟩ = some (.int .i64 a1)) (hb : b < W.heap.size) :
  Calls Tryd.prog 103 #[.agg #[.int .i64 x.f0, .string x.f1, .int .i64 x.f2, .int .i64 x.f3, .int .i64 x.f4], .pointer (some ⟨b, 0, none⟩)] W fun e w' => e = .returned (.bool (decide (x.f0 = a1))) ∧ Below W.heap.size W w' := by
 have hu_ := Tryd.underlying26; have hB1 : Below W.heap.size W (W.alloc (.cells #[.int .i64 x.f0, .string x.f1, .int .i64 x.f2, .int .i64 x.f3, .int .i64 x.f4] 26)) := below_alloc (Below.refl _ _) _; have Aa : (W.alloc (.cells #[.int .i64 x.f0, .string x.f1, .int .i64 x.f2, .int .i64 x.f3, .int .i64 x.f4] 26)).cell? ⟨b, 0, none⟩ = some (.int .i64 a1) := (hB1.cell (p := ⟨b, 0, none⟩) hb).trans hc; have HB := Aside0.mk hB1; clear hB1 hc
 by_cases h : x.f0 = a1
 ·have d0 : (x.f0 == a1) = true := beq_iff_eq.2 h
  rw [decide_eq_true h]; clear h
  go_enter Tryd.func103, Tryd.ntmps103
  go_wp2
  go_ret
  exact ⟨by first | rfl | (simp; done) | (simp [d0]; done), HB.out⟩
 ·have d0 : (x.f0 == a1) = false := beq_eq_false_iff_ne.2 h
  rw [decide_eq_false h]; clear h
  go_enter Tryd.func103, Tryd.ntmps103
  go_wp2
  go_ret
  exact ⟨by first | rfl | (simp; done) | (simp [d0]; done), HB.out⟩
def impl_findWeaver.f (l0 : List (S26)) (a1 : Int) : Option Int := (impl_AreWeavers.f l0).bind fun b => some (if b = true then findI (fun x => decide (x.f0 = a1)) l0 else -1)
theorem impl_findWeaver.calls (A0 : Option Addr) (c0 : Nat) (l0 : List (S26)) (a1 : Int) (r : Int) (w : World) (Aa : Kd.C k26 w A0 l0.length l0) (Ab : l0.length ≤ c0) (h : impl_findWeaver.f l0 a1 = some r) :
  Calls Tryd.prog 85 #[.slice A0 l0.length c0, .int .i64 a1] w fun e w' => e = .returned (.int .i64 r) ∧ Below w.heap.size w w' := by
 obtain ⟨b, hb, h1⟩ := Option.bind_eq_some_iff.mp h; obtain rfl := Option.some.inj h1; clear h h1
 have hmf : ∀ (fn : Fn) (first cap : Array Value) (w : World), (Instr.makeFunc fn first cap).run Tryd.prog w = .ok (.func fn first cap) w := fun _ _ _ _ => rfl
 have hB1 : Below w.heap.size w (w.alloc (.cells #[.int .i64 a1] 3)) := below_alloc (Below.refl _ _) _
 have hcell : (w.alloc (.cells #[.int .i64 a1] 3)).cell? ⟨w.heap.size, 0, none⟩ = some (.int .i64 a1) := by simp
 have hsz : w.heap.size < (w.alloc (.cells #[.int .i64 a1] 3)).heap.size := by simp
 have hA := impl_AreWeavers.calls A0 c0 l0 b (w.alloc (.cells #[.int .i64 a1] 3)) (Kd.C_below Aa hB1) Ab hb
 have h3 : ∀ W, Below (w.heap.size + 1) (w.alloc (.cells #[.int .i64 a1] 3)) W → _ := fun W hb => IndexFunc_wv (fun x => decide (x.f0 = a1)) 103 #[.pointer (some ⟨w.heap.size, 0, none⟩)] A0 c0 l0 W (enters_of Tryd.func103 Z32 rfl) (Kd.C_below (Kd.C_below Aa hB1) (hb.mono (by simp)))
  (fun W2 x hb2 => findWeaver_1 w.heap.size x a1 W2 ((hb2.cell (p := ⟨w.heap.size, 0, none⟩) (Nat.lt_of_lt_of_le hsz Z109)).trans ((hb.cell (p := ⟨w.heap.size, 0, none⟩) (Nat.lt_succ_self _)).trans hcell)) (Nat.lt_of_lt_of_le (Nat.lt_of_lt_of_le hsz Z109) hb2.size))
 have HA := Aside0.mk hA; have H3 := Aside0.mk h3; have HB := Aside0.mk hB1; clear hA h3 hB1 hcell Aa Ab hb hsz; cases b with
 | false =>
  go_enter Tryd.func85, Tryd.ntmps85
  go_wp2_with fail
  refine HA.out.mono ?_; rintro e w1 ⟨rfl, hb1⟩
  go_wp2
  go_ret
  exact ⟨Z57, below_step HB.out hb1⟩
 | true =>
  go_enter Tryd.func85, Tryd.ntmps85
  go_wp2_with fail
  refine HA.out.mono ?_; rintro e w1 ⟨rfl, hb1⟩; have Ac := aM (below_step HB.out hb1); have HV := aM (show Below (w.heap.size + 1) (w.alloc (.cells #[.int .i64 a1] 3)) w1 from hb1.mono (by simp)); clear hb1
  go_wp2_with fail
  refine (H3.out _ HV.out).mono ?_; rintro e w2 ⟨rfl, hb2⟩
  go_wp2
  go_ret
  exact ⟨Z57, below_step Ac.out hb2⟩
def impl_SeatWeaver.f (l0 : List (S26)) (a1 : Int) (a2 : Int) : Option ((List (S26)) × Bool) := (impl_findWeaver.f l0 a1).bind fun t207 => (if t207 < 0 then (some (([] : List (S26)), false)) else ((slices_Clone_wv.f l0).bind fun t208 => (if 0 ≤ t207 then (if t207 < (t208.length : Int) then ((some (t208.set (t207 : Int).toNat (⟨(rd_T26 t208 t207).f0, (rd_T26 t208 t207).f1, (rd_T26 t208 t207).f2, (rd_T26 t208 t207).f3, a2⟩ : S26) : List (S26))).bind fun y211 => ((impl_AreWeavers.f y211).bind fun t212 => (if t212 = true then (some (y211, true)) else (some (([] : List (S26)), false))))) else (none)) else (none))))
theorem impl_SeatWeaver.calls (A0 : Option Addr) (c0 : Nat) (l0 : List (S26)) (a1 : Int) (a2 : Int) (r1 : List (S26)) (r2 : Bool) (w : World) (Bs : Kd.C k26 w A0 l0.length l0) (Bt : l0.length ≤ c0) (h : impl_SeatWeaver.f l0 a1 a2 = some (r1, r2)) :
  Calls Tryd.prog 39 #[.slice A0 l0.length c0, .int .i64 a1, .int .i64 a2] w fun e w' => ∃ v0_ : Value, e = .returned (.tuple #[v0_, .bool r2]) ∧ Kd.R k26 26 w' w.heap.size (fun _ => True) v0_ r1 ∧ Below w.heap.size w w' := by
 have Bj := Aside0.mk Bs; have Bk := Aside0.mk Bt; clear Bs Bt; have HB := aM (Below.refl w.heap.size w); have H : ((impl_findWeaver.f l0 a1).bind fun Aa => (if Aa < 0 then (some (([] : List (S26)), false)) else ((slices_Clone_wv.f l0).bind fun Ab => (if 0 ≤ Aa then (if Aa < (Ab.length : Int) then ((some (Ab.set (Aa : Int).toNat (⟨(rd_T26 Ab Aa).f0, (rd_T26 Ab Aa).f1, (rd_T26 Ab Aa).f2, (rd_T26 Ab Aa).f3, a2⟩ : S26) : List (S26))).bind fun Ae => ((impl_AreWeavers.f Ae).bind fun Af => (if Af = true then (some (Ae, true)) else (some (([] : List (S26)), false))))) else (none)) else (none))))) = some (r1, r2) := h; clear h; replace H := Option.bind_eq_some_iff.mp H; obtain ⟨Aa, Bu, H⟩ := H; replace H : (if Aa < 0 then (some (([] : List (S26)), false)) else ((slices_Clone_wv.f l0).bind fun Ab => (if 0 ≤ Aa then (if Aa < (Ab.length : Int) then ((some (Ab.set (Aa : Int).toNat (⟨(rd_T26 Ab Aa).f0, (rd_T26 Ab Aa).f1, (rd_T26 Ab Aa).f2, (rd_T26 Ab Aa).f3, a2⟩ : S26) : List (S26))).bind fun Ae => ((impl_AreWeavers.f Ae).bind fun Af => (if Af = true then (some (Ae, true)) else (some (([] : List (S26)), false))))) else (none)) else (none)))) = some (r1, r2) := H; have A4 := Aside0.mk Bu; clear Bu
 by_cases c5 : Aa < 0
 ·rw [if_pos c5] at H
  have c5b0 : decide (Aa < 0) = true := decide_eq_true c5; clear c5
  simp only [Option.some.injEq, Prod.mk.injEq] at H
  obtain ⟨rfl, rfl⟩ := H
  go_enter Tryd.func39, Tryd.ntmps39
  go_wp2_with (first | ((with_reducible refine gate_callee (f := 85) rfl ?_); refine glE (some 12) Tryd.func85 #[.slice A0 l0.length c0, .int .i64 a1] ?_; (with_reducible refine (impl_findWeaver.calls _ _ l0 a1 Aa _ ?side1 ?side2 A4.out).mono ?_); (case side1 => exact Z64); (case side2 => exact Bk.out); rintro e w6 ⟨rfl, hb⟩; refine ⟨_, rfl, ?_⟩; replace HB := hbS Z0 hb; (try clear hb)))
  go_ret2
  exact ⟨_, Z13, Z59, Z0⟩
 ·rw [if_neg c5] at H
  have c5b0 : decide (Aa < 0) = false := decide_eq_false c5; clear c5; replace H := Option.bind_eq_some_iff.mp H; obtain ⟨Ab, Bv, H⟩ := H; replace H : (if 0 ≤ Aa then (if Aa < (Ab.length : Int) then ((some (Ab.set (Aa : Int).toNat (⟨(rd_T26 Ab Aa).f0, (rd_T26 Ab Aa).f1, (rd_T26 Ab Aa).f2, (rd_T26 Ab Aa).f3, a2⟩ : S26) : List (S26))).bind fun Ae => ((impl_AreWeavers.f Ae).bind fun Af => (if Af = true then (some (Ae, true)) else (some (([] : List (S26)), false))))) else (none)) else (none)) = some (r1, r2) := H; have A7 := Aside0.mk Bv; clear Bv
  by_cases c8 : 0 ≤ Aa
  ·rw [if_pos c8] at H
   have c8b0 : decide (0 ≤ Aa) = true := decide_eq_true c8; clear c8
   by_cases c9 : Aa < (Ab.length : Int)
   ·rw [if_pos c9] at H
    have c9b0 : decide (Aa < (Ab.length : Int)) = true := decide_eq_true c9; clear c9; obtain ⟨Ae, Ag⟩ : ∃ y_ : List (S26), y_ = (Ab.set (Aa : Int).toNat (⟨(rd_T26 Ab Aa).f0, (rd_T26 Ab Aa).f1, (rd_T26 Ab Aa).f2, (rd_T26 Ab Aa).f3, a2⟩ : S26)) := ⟨_, rfl⟩
    replace H : ((impl_AreWeavers.f Ae).bind fun Af => (if Af = true then (some (Ae, true)) else (some (([] : List (S26)), false)))) = some (r1, r2) := by first | (rw [Ag]; with_reducible exact H) | (have H2_ := (Option.bind_some _ _).symm.trans H; rw [Ag]; with_reducible exact H2_) | (have H2_ := (Option.bind_some _ _).symm.trans H; with_reducible exact H2_) | with_reducible exact H | (rw [Ag]; exact H) | exact H
    have Am := Aside0.mk Ag; clear Ag; replace H := Option.bind_eq_some_iff.mp H; obtain ⟨Af, Bl, H⟩ := H; replace H : (if Af = true then (some (Ae, true)) else (some (([] : List (S26)), false))) = some (r1, r2) := H; have Bw := Aside0.mk Bl; clear Bl
    by_cases Bn : Af = true
    ·subst Bn
     have H1 : (some (Ae, true)) = some (r1, r2) := by rw [if_pos rfl] at H; exact H
     clear H; have H := H1; clear H1
     simp only [Option.some.injEq, Prod.mk.injEq] at H
     obtain ⟨rfl, rfl⟩ := H
     go_enter Tryd.func39, Tryd.ntmps39
     go_wp2_with (first | ((with_reducible refine gate_callee (f := 85) rfl ?_); refine glE (some 12) Tryd.func85 #[.slice A0 l0.length c0, .int .i64 a1] ?_; (with_reducible refine (impl_findWeaver.calls _ _ l0 a1 Aa _ ?side1 ?side2 A4.out).mono ?_); (case side1 => exact Z64); (case side2 => exact Bk.out); rintro e Bx ⟨rfl, hb⟩; refine ⟨_, rfl, ?_⟩; replace HB := hbS Z0 hb; (try clear hb)) | ((with_reducible refine gate_callee (f := 78) rfl ?_); refine glE (some 16) Tryd.func78 #[.slice A0 l0.length c0] ?_; (with_reducible refine (slices_Clone_wv.calls _ _ l0 Ab _ ?side1 ?side2 A7.out).mono ?_); (case side1 => exact Z75); (case side2 => exact Bk.out); rintro e Ai ⟨Bo, rfl, Bm, hb⟩; refine ⟨_, rfl, ?_⟩; have Ac := aM (Kd.R_lower Bm (below_size Z0)); replace HB := hbS Z0 hb; (try clear hb); (try clear Bm); have An : 0 ≤ (Aa : Int) := of_decide_eq_true Z11; have Ao : (Aa : Int) < ((Ab.length : Int) : Int) := of_decide_eq_true Z11; obtain ⟨Ad, Ah, Ak, Al, gl10, cl10, HG10⟩ := Kd.R_form Ac.out (by omega); (first | cases Ak | (injection Ak with ea_ en_ ec_; (first | subst ea_ | (injection ea_ with ea_; subst ea_)); subst ec_; clear en_)); have Ap := Aside0.mk Al; have Bp := Aside0.mk HG10; clear Al gl10 HG10; obtain ⟨ce10, hcl10, hM10, hcc10, hfr10⟩ := Kd.R_elem Ac.out z26 (Aa : Int) An Ao; obtain rfl := k26_openM hM10; have Aq : Ai.cell? ⟨Ad, (Aa : Int).toNat * 5, none⟩ = some (.int .i64 ((rd_T26 Ab Aa).f0)) := hcc10 0 _ rfl; have Ar : Ai.cell? ⟨Ad, (Aa : Int).toNat * 5 + 1, none⟩ = some (.string ((rd_T26 Ab Aa).f1)) := hcc10 1 _ rfl; have Au : Ai.cell? ⟨Ad, (Aa : Int).toNat * 5 + 2, none⟩ = some (.int .i64 ((rd_T26 Ab Aa).f2)) := hcc10 2 _ rfl; have Av : Ai.cell? ⟨Ad, (Aa : Int).toNat * 5 + 3, none⟩ = some (.int .i64 ((rd_T26 Ab Aa).f3)) := hcc10 3 _ rfl; have Aw : Ai.cell? ⟨Ad, (Aa : Int).toNat * 5 + 4, none⟩ = some (.int .i64 ((rd_T26 Ab Aa).f4)) := hcc10 4 _ rfl; have Ax : Ai.frozen? ⟨Ad, (Aa : Int).toNat * 5, none⟩ = false := hfr10 0; have Ay : Ai.frozen? ⟨Ad, (Aa : Int).toNat * 5 + 1, none⟩ = false := hfr10 1; have Az : Ai.frozen? ⟨Ad, (Aa : Int).toNat * 5 + 2, none⟩ = false := hfr10 2; have Ba : Ai.frozen? ⟨Ad, (Aa : Int).toNat * 5 + 3, none⟩ = false := hfr10 3; have Bb : Ai.frozen? ⟨Ad, (Aa : Int).toNat * 5 + 4, none⟩ = false := hfr10 4; clear hcl10 hcc10 hfr10 hM10; replace An := eq_true An; replace Ao := eq_true Ao; have HX15 := aM (show Kd.R k26 26 Ai w.heap.size (fun _ => True) (.slice (some ⟨Ad, 0, none⟩) Ab.length Ah) Ab from Z55); obtain ⟨ce15, hcl15, hM15, hcc15, hfr15⟩ := Kd.R_elem HX15.out z26 (Aa : Int) (of_decide_eq_true Z11) Z121; obtain rfl := k26_openM hM15; have Bc := Kd.R_seg HX15.out (Aa : Int) (of_decide_eq_true Z11) Z121 (seg := [.int .i64 a2]) (j := 4) hcl15 hcc15 (show 5 ≤ 5 from by decide) (x' := (⟨(rd_T26 Ab Aa).f0, (rd_T26 Ab Aa).f1, (rd_T26 Ab Aa).f2, (rd_T26 Ab Aa).f3, a2⟩ : S26)) (k26_mkM _ _ _ (⟨(rd_T26 Ab Aa).f0, (rd_T26 Ab Aa).f1, (rd_T26 Ab Aa).f2, (rd_T26 Ab Aa).f3, a2⟩ : S26) ) (fun _ hk => hk); have Bd := hcc15 4 _ rfl; (try simp only [show (k26).sz = 5 from rfl, Nat.mul_one, Nat.add_zero] at Bd); have Bf := hfr15 4; (try simp only [show (k26).sz = 5 from rfl, Nat.mul_one, Nat.add_zero] at Bf); clear hcl15 hcc15 hfr15 hM15) | ((with_reducible refine gate_store (t := 3) (p := 21) rfl ?_); refine store_event (t := 3) (p := 21) (v := ?vo_w16) (w1 := (Ai.setCell ⟨Ad, (Aa : Int).toNat * 5 + 4, none⟩ (.int .i64 a2))) ?hg ?ho ?hn ?hr ?_; (case ho => rfl); (case hg => rfl); (case hn => rfl); (case hr => first | (go_simp; done) | (go_simp; rfl)); intro Bq hw; have hg : Ai.grownBy Bq (some Ad) := (by rw [hw]; exact Bc.2); have hp_ : Kd.R k26 26 Bq w.heap.size (fun _ => True) (.slice (some ⟨Ad, 0, none⟩) Ab.length Ah) Ae := (by rw [hw, Am.out]; exact Bc.1); clear Bc; replace Ac := aM (hp_); replace HB := aM ((by rw [hw]; exact below_set (HB.out) Ap.out : Below w.heap.size w Bq)); clear hg hw hp_) | ((with_reducible refine gate_callee (f := 22) rfl ?_); refine goesL_ (some 23) rfl rfl Tryd.func22 Z32 rfl #[.slice (some ⟨Ad, 0, none⟩) Ae.length Ah] rfl Z67 ?_; (with_reducible refine (impl_AreWeavers.calls _ _ Ae true _ ?side1 ?side2 Bw.out).mono ?_); (case side1 => exact Z79); (case side2 => exact Z105); rintro e Bz ⟨rfl, hb⟩; refine ⟨_, rfl, ?_⟩; replace Ac := roB Ac hb; replace HB := hbS Z0 hb; (try clear hb)))
     go_ret2
     exact ⟨_, Z13, Z55, Z0⟩
    ·replace Bn := Bool.eq_false_iff.mpr Bn
     subst Bn
     have H1 : (some (([] : List (S26)), false)) = some (r1, r2) := by rw [if_neg (show ¬ (false = true) by decide)] at H; exact H
     clear H; have H := H1; clear H1
     simp only [Option.some.injEq, Prod.mk.injEq] at H
     obtain ⟨rfl, rfl⟩ := H
     go_enter Tryd.func39, Tryd.ntmps39
     go_wp2_with (first | ((with_reducible refine gate_callee (f := 85) rfl ?_); refine glE (some 12) Tryd.func85 #[.slice A0 l0.length c0, .int .i64 a1] ?_; (with_reducible refine (impl_findWeaver.calls _ _ l0 a1 Aa _ ?side1 ?side2 A4.out).mono ?_); (case side1 => exact Z64); (case side2 => exact Bk.out); rintro e B0 ⟨rfl, hb⟩; refine ⟨_, rfl, ?_⟩; replace HB := hbS Z0 hb; (try clear hb)) | ((with_reducible refine gate_callee (f := 78) rfl ?_); refine glE (some 16) Tryd.func78 #[.slice A0 l0.length c0] ?_; (with_reducible refine (slices_Clone_wv.calls _ _ l0 Ab _ ?side1 ?side2 A7.out).mono ?_); (case side1 => exact Z75); (case side2 => exact Bk.out); rintro e Aj ⟨Bo, rfl, Bm, hb⟩; refine ⟨_, rfl, ?_⟩; have Ac := aM (Kd.R_lower Bm (below_size Z0)); replace HB := hbS Z0 hb; (try clear hb); (try clear Bm); have An : 0 ≤ (Aa : Int) := of_decide_eq_true Z11; have Ao : (Aa : Int) < ((Ab.length : Int) : Int) := of_decide_eq_true Z11; obtain ⟨Ad, Ah, Ak, Al, gl10, cl10, HG10⟩ := Kd.R_form Ac.out (by omega); (first | cases Ak | (injection Ak with ea_ en_ ec_; (first | subst ea_ | (injection ea_ with ea_; subst ea_)); subst ec_; clear en_)); have Ap := Aside0.mk Al; have Bp := Aside0.mk HG10; clear Al gl10 HG10; obtain ⟨ce10, hcl10, hM10, hcc10, hfr10⟩ := Kd.R_elem Ac.out z26 (Aa : Int) An Ao; obtain rfl := k26_openM hM10; have Aq : Aj.cell? ⟨Ad, (Aa : Int).toNat * 5, none⟩ = some (.int .i64 ((rd_T26 Ab Aa).f0)) := hcc10 0 _ rfl; have Ar : Aj.cell? ⟨Ad, (Aa : Int).toNat * 5 + 1, none⟩ = some (.string ((rd_T26 Ab Aa).f1)) := hcc10 1 _ rfl; have Au : Aj.cell? ⟨Ad, (Aa : Int).toNat * 5 + 2, none⟩ = some (.int .i64 ((rd_T26 Ab Aa).f2)) := hcc10 2 _ rfl; have Av : Aj.cell? ⟨Ad, (Aa : Int).toNat * 5 + 3, none⟩ = some (.int .i64 ((rd_T26 Ab Aa).f3)) := hcc10 3 _ rfl; have Aw : Aj.cell? ⟨Ad, (Aa : Int).toNat * 5 + 4, none⟩ = some (.int .i64 ((rd_T26 Ab Aa).f4)) := hcc10 4 _ rfl; have Ax : Aj.frozen? ⟨Ad, (Aa : Int).toNat * 5, none⟩ = false := hfr10 0; have Ay : Aj.frozen? ⟨Ad, (Aa : Int).toNat * 5 + 1, none⟩ = false := hfr10 1; have Az : Aj.frozen? ⟨Ad, (Aa : Int).toNat * 5 + 2, none⟩ = false := hfr10 2; have Ba : Aj.frozen? ⟨Ad, (Aa : Int).toNat * 5 + 3, none⟩ = false := hfr10 3; have Bb : Aj.frozen? ⟨Ad, (Aa : Int).toNat * 5 + 4, none⟩ = false := hfr10 4; clear hcl10 hcc10 hfr10 hM10; replace An := eq_true An; replace Ao := eq_true Ao; have HX20 := aM (show Kd.R k26 26 Aj w.heap.size (fun _ => True) (.slice (some ⟨Ad, 0, none⟩) Ab.length Ah) Ab from Z55); obtain ⟨ce20, hcl20, hM20, hcc20, hfr20⟩ := Kd.R_elem HX20.out z26 (Aa : Int) (of_decide_eq_true Z11) Z121; obtain rfl := k26_openM hM20; have Bg := Kd.R_seg HX20.out (Aa : Int) (of_decide_eq_true Z11) Z121 (seg := [.int .i64 a2]) (j := 4) hcl20 hcc20 (show 5 ≤ 5 from by decide) (x' := (⟨(rd_T26 Ab Aa).f0, (rd_T26 Ab Aa).f1, (rd_T26 Ab Aa).f2, (rd_T26 Ab Aa).f3, a2⟩ : S26)) (k26_mkM _ _ _ (⟨(rd_T26 Ab Aa).f0, (rd_T26 Ab Aa).f1, (rd_T26 Ab Aa).f2, (rd_T26 Ab Aa).f3, a2⟩ : S26) ) (fun _ hk => hk); have Bh := hcc20 4 _ rfl; (try simp only [show (k26).sz = 5 from rfl, Nat.mul_one, Nat.add_zero] at Bh); have Bi := hfr20 4; (try simp only [show (k26).sz = 5 from rfl, Nat.mul_one, Nat.add_zero] at Bi); clear hcl20 hcc20 hfr20 hM20) | ((with_reducible refine gate_store (t := 3) (p := 21) rfl ?_); refine store_event (t := 3) (p := 21) (v := ?vo_w21) (w1 := (Aj.setCell ⟨Ad, (Aa : Int).toNat * 5 + 4, none⟩ (.int .i64 a2))) ?hg ?ho ?hn ?hr ?_; (case ho => rfl); (case hg => rfl); (case hn => rfl); (case hr => first | (go_simp; done) | (go_simp; rfl)); intro Br hw; have hg : Aj.grownBy Br (some Ad) := (by rw [hw]; exact Bg.2); have hp_ : Kd.R k26 26 Br w.heap.size (fun _ => True) (.slice (some ⟨Ad, 0, none⟩) Ab.length Ah) Ae := (by rw [hw, Am.out]; exact Bg.1); clear Bg; replace Ac := aM (hp_); replace HB := aM ((by rw [hw]; exact below_set (HB.out) Ap.out : Below w.heap.size w Br)); clear hg hw hp_) | ((with_reducible refine gate_callee (f := 22) rfl ?_); refine goesL_ (some 23) rfl rfl Tryd.func22 Z32 rfl #[.slice (some ⟨Ad, 0, none⟩) Ae.length Ah] rfl Z67 ?_; (with_reducible refine (impl_AreWeavers.calls _ _ Ae false _ ?side1 ?side2 Bw.out).mono ?_); (case side1 => exact Z79); (case side2 => exact Z105); rintro e B1 ⟨rfl, hb⟩; refine ⟨_, rfl, ?_⟩; replace Ac := roB Ac hb; replace HB := hbS Z0 hb; (try clear hb)))
     go_ret2
     exact ⟨_, Z13, Z59, Z0⟩
   ·rw [if_neg c9] at H
    exact absurd H (by simp)
  ·rw [if_neg c8] at H
   exact absurd H (by simp)
def laws_rBig.f (l0 : List Int) : Option (Bool) := some (decide ((l0.length : Int) > 65536))
theorem laws_rBig.calls (A0 : Option Addr) (c0 : Nat) (l0 : List Int) (r : Bool) (w : World) (Aa : Kd.C (Kd.int .u8) w A0 l0.length l0) (Ab : l0.length ≤ c0) (h : laws_rBig.f l0 = some r) :
  Calls Tryd.prog 45 #[.slice A0 l0.length c0] w fun e w' => e = .returned (.bool r) ∧ Drawn0 w w' := by
 have Ac := Aside0.mk Aa; have Ad := Aside0.mk Ab; clear Aa Ab; have H : (some (decide ((l0.length : Int) > 65536))) = some r := h; clear h; obtain rfl := Option.some.inj H
 go_enter Tryd.func45, Tryd.ntmps45
 go_wp2
 go_ret
 exact ⟨Z15, Z26⟩
def laws_rInts.l0 : Nat → List Int → List Int → Int → Option (Bool)
 | 0, _, _, _ => none
 | k + 1, x0, x1, x5 => if x5 < (x0.length : Int) then (if 0 ≤ x5 then (if x5 < (x1.length : Int) then (if (rd x0 x5) = (rd x1 x5) then (laws_rInts.l0 k x0 x1 (wrap64 (x5 + 1))) else (some false)) else (none)) else (none)) else (some true)
def laws_rInts.f (k : Nat) (l0 : List Int) (l1 : List Int) : Option (Bool) := if (l0.length : Int) = (l1.length : Int) then (laws_rInts.l0 k l0 l1 0) else (some false)
theorem laws_rInts.calls (k : Nat) (A0 : Option Addr) (c0 : Nat) (l0 : List Int) (A1 : Option Addr) (c1 : Nat) (l1 : List Int) (r : Bool) (w : World) (Ah : Kd.C (Kd.int .i64) w A0 l0.length l0) (Ai : l0.length ≤ c0) (Aj : Kd.C (Kd.int .i64) w A1 l1.length l1) (Ak : l1.length ≤ c1) (h : laws_rInts.f k l0 l1 = some r) :
  Calls Tryd.prog 47 #[.slice A0 l0.length c0, .slice A1 l1.length c1] w fun e w' => e = .returned (.bool r) ∧ Drawn0 w w' := by
 have Al := Aside0.mk Ah; have An := Aside0.mk Ai; clear Ah Ai; have Am := Aside0.mk Aj; have Ao := Aside0.mk Ak; clear Aj Ak; have H : (if (l0.length : Int) = (l1.length : Int) then (laws_rInts.l0 k l0 l1 0) else (some false)) = some r := h; clear h
 by_cases c3 : (l0.length : Int) = (l1.length : Int)
 ·rw [if_pos c3] at H
  have c3b0 : ((l0.length : Int) == (l1.length : Int)) = true := beq_iff_eq.mpr c3; have c3b1 : ((l0.length : Int) != (l1.length : Int)) = false := bne_eq_false_iff_eq.mpr c3
  have c3b2 : (l0.length == l1.length) = true := by first | simpa using c3 | (simp at c3 ⊢; omega)
  clear c3; have H' := Aside0.mk H; clear H
  go_enter Tryd.func47, Tryd.ntmps47
  go_wp2
  repeat (go_quiet (fail); try go_wp2)
  go_loopg [5] k (fun kq v5 w' => ∃ (Aa : Int), v5 = .int .i64 Aa ∧ Aside0 (laws_rInts.l0 kq l0 l1 Aa = some r) ∧ Aside0 (kq ≤ k) ∧ Drawn0 w w')
  case atStart => exact ⟨(0), Z15, H', ⟨Nat.le_refl _⟩, Z26⟩
  case round =>
   clear H'; (try clear c1); (try clear p2); (try clear c3); (try clear c3b0); (try clear c3b1); (try clear c3b2); obtain ⟨Aa, rfl, HA, HK1, ⟨m1, rfl⟩⟩ := hrel; cases gk with
   | zero => exact absurd HA.out (by simp [laws_rInts.l0])
   | succ k1 =>
    have H := HA.out; clear HA
    simp only [laws_rInts.l0] at H
    by_cases c4 : Aa < (l0.length : Int)
    ·rw [if_pos c4] at H
     have c4b0 : decide (Aa < (l0.length : Int)) = true := decide_eq_true c4; clear c4
     by_cases c5 : 0 ≤ Aa
     ·rw [if_pos c5] at H
      have c5b0 : decide (0 ≤ Aa) = true := decide_eq_true c5; clear c5
      by_cases c6 : Aa < (l1.length : Int)
      ·rw [if_pos c6] at H
       have c6b0 : decide (Aa < (l1.length : Int)) = true := decide_eq_true c6; clear c6
       by_cases c7 : (rd l0 Aa) = (rd l1 Aa)
       ·rw [if_pos c7] at H
        have c7b0 : ((rd l0 Aa) == (rd l1 Aa)) = true := beq_iff_eq.mpr c7; have c7b1 : ((rd l0 Aa) != (rd l1 Aa)) = false := bne_eq_false_iff_eq.mpr c7; clear c7; have H' := Aside0.mk H; clear H; have Ab : 0 ≤ (Aa : Int) := of_decide_eq_true Z11; have Ac : Aa < (l0.length : Int) := of_decide_eq_true Z11; obtain ⟨ad213, e213, Af⟩ := Kd.at_int Al.out Aa Ab Ac; cases e213; replace Ab := eq_true Ab; replace Ac := eq_true Ac; have Ad : 0 ≤ (Aa : Int) := of_decide_eq_true Z11; have Ae : Aa < (l1.length : Int) := of_decide_eq_true Z11; obtain ⟨ad214, e214, Ag⟩ := Kd.at_int Am.out Aa Ad Ae; cases e214; replace Ad := eq_true Ad; replace Ae := eq_true Ae
        go_wp2
        repeat (go_quiet (fail); try go_wp2)
        go_roundg k1
        case measure => have := HK1.out; omega
        case rel => exact ⟨(wrap64 (Aa + 1)), Z15, H', ⟨Z50⟩, Z26⟩
       ·rw [if_neg c7] at H
        have c7b0 : ((rd l0 Aa) == (rd l1 Aa)) = false := beq_eq_false_iff_ne.mpr c7; have c7b1 : ((rd l0 Aa) != (rd l1 Aa)) = true := bne_iff_ne.mpr c7; obtain rfl := Option.some.inj H; have Ab : 0 ≤ (Aa : Int) := of_decide_eq_true Z11; have Ac : Aa < (l0.length : Int) := of_decide_eq_true Z11; obtain ⟨ad213, e213, Af⟩ := Kd.at_int Al.out Aa Ab Ac; cases e213; replace Ab := eq_true Ab; replace Ac := eq_true Ac; have Ad : 0 ≤ (Aa : Int) := of_decide_eq_true Z11; have Ae : Aa < (l1.length : Int) := of_decide_eq_true Z11; obtain ⟨ad214, e214, Ag⟩ := Kd.at_int Am.out Aa Ad Ae; cases e214; replace Ad := eq_true Ad; replace Ae := eq_true Ae
        go_wp2
        repeat (go_quiet (fail); try go_wp2)
        go_ret
        exact ⟨Z15, Z26⟩
      ·rw [if_neg c6] at H
       exact absurd H (by simp)
     ·rw [if_neg c5] at H
      exact absurd H (by simp)
    ·rw [if_neg c4] at H
     have c4b0 : decide (Aa < (l0.length : Int)) = false := decide_eq_false c4; clear c4; obtain rfl := Option.some.inj H
     go_wp2
     repeat (go_quiet (fail); try go_wp2)
     go_ret
     exact ⟨Z15, Z26⟩
 ·rw [if_neg c3] at H
  have c3b0 : ((l0.length : Int) == (l1.length : Int)) = false := beq_eq_false_iff_ne.mpr c3; have c3b1 : ((l0.length : Int) != (l1.length : Int)) = true := bne_iff_ne.mpr c3
  have c3b2 : (l0.length == l1.length) = false := by first | simpa using c3 | (simp at c3 ⊢; omega)
  obtain rfl := Option.some.inj H
  go_enter Tryd.func47, Tryd.ntmps47
  go_wp2
  repeat (go_quiet (fail); try go_wp2)
  go_ret
  exact ⟨Z15, Z26⟩
def laws_rHas.l0 : Nat → List Int → Int → Int → Option (Bool)
 | 0, _, _, _ => none
 | k + 1, x0, x1, x5 => if x5 < (x0.length : Int) then (if 0 ≤ x5 then (if (rd x0 x5) = x1 then (some true) else (laws_rHas.l0 k x0 x1 (wrap64 (x5 + 1)))) else (none)) else (some false)
def laws_rHas.f (k : Nat) (l0 : List Int) (a1 : Int) : Option (Bool) := laws_rHas.l0 k l0 a1 0
theorem laws_rHas.calls (k : Nat) (A0 : Option Addr) (c0 : Nat) (l0 : List Int) (a1 : Int) (r : Bool) (w : World) (Ae : Kd.C (Kd.int .i64) w A0 l0.length l0) (Af : l0.length ≤ c0) (h : laws_rHas.f k l0 a1 = some r) :
  Calls Tryd.prog 48 #[.slice A0 l0.length c0, .int .i64 a1] w fun e w' => e = .returned (.bool r) ∧ Drawn0 w w' := by
 have Ag := Aside0.mk Ae; have Ah := Aside0.mk Af; clear Ae Af; have H : (laws_rHas.l0 k l0 a1 0) = some r := h; clear h; have H' := Aside0.mk H; clear H
 go_enter Tryd.func48, Tryd.ntmps48
 go_wp2
 go_loopg [5] k (fun kq v5 w' => ∃ (Aa : Int), v5 = .int .i64 Aa ∧ Aside0 (laws_rHas.l0 kq l0 a1 Aa = some r) ∧ Aside0 (kq ≤ k) ∧ Drawn0 w w')
 case atStart => exact ⟨(0), Z15, H', ⟨Nat.le_refl _⟩, Z26⟩
 case round =>
  clear H'; (try clear p2); obtain ⟨Aa, rfl, HA, HK1, ⟨m1, rfl⟩⟩ := hrel; cases gk with
  | zero => exact absurd HA.out (by simp [laws_rHas.l0])
  | succ k1 =>
   have H := HA.out; clear HA
   simp only [laws_rHas.l0] at H
   by_cases c3 : Aa < (l0.length : Int)
   ·rw [if_pos c3] at H
    have c3b0 : decide (Aa < (l0.length : Int)) = true := decide_eq_true c3; clear c3
    by_cases c4 : 0 ≤ Aa
    ·rw [if_pos c4] at H
     have c4b0 : decide (0 ≤ Aa) = true := decide_eq_true c4; clear c4
     by_cases c5 : (rd l0 Aa) = a1
     ·rw [if_pos c5] at H
      have c5b0 : ((rd l0 Aa) == a1) = true := beq_iff_eq.mpr c5; have c5b1 : ((rd l0 Aa) != a1) = false := bne_eq_false_iff_eq.mpr c5; clear c5; obtain rfl := Option.some.inj H; have Ab : 0 ≤ (Aa : Int) := of_decide_eq_true Z11; have Ac : Aa < (l0.length : Int) := of_decide_eq_true Z11; obtain ⟨ad215, e215, Ad⟩ := Kd.at_int Ag.out Aa Ab Ac; cases e215; replace Ab := eq_true Ab; replace Ac := eq_true Ac
      go_wp2
      go_ret
      exact ⟨Z15, Z26⟩
     ·rw [if_neg c5] at H
      have c5b0 : ((rd l0 Aa) == a1) = false := beq_eq_false_iff_ne.mpr c5; have c5b1 : ((rd l0 Aa) != a1) = true := bne_iff_ne.mpr c5; have H' := Aside0.mk H; clear H; have Ab : 0 ≤ (Aa : Int) := of_decide_eq_true Z11; have Ac : Aa < (l0.length : Int) := of_decide_eq_true Z11; obtain ⟨ad215, e215, Ad⟩ := Kd.at_int Ag.out Aa Ab Ac; cases e215; replace Ab := eq_true Ab; replace Ac := eq_true Ac
      go_wp2
      go_roundg k1
      case measure => have := HK1.out; omega
      case rel => exact ⟨(wrap64 (Aa + 1)), Z15, H', ⟨Z50⟩, Z26⟩
    ·rw [if_neg c4] at H
     exact absurd H (by simp)
   ·rw [if_neg c3] at H
    have c3b0 : decide (Aa < (l0.length : Int)) = false := decide_eq_false c3; clear c3; obtain rfl := Option.some.inj H
    go_wp2
    go_ret
    exact ⟨Z15, Z26⟩
def laws_rWeavers.l0 : Nat → List (S26) → List (S26) → Int → Option (Bool)
 | 0, _, _, _ => none
 | k + 1, x0, x1, x5 => if x5 < (x0.length : Int) then (if 0 ≤ x5 then (if x5 < (x1.length : Int) then (if (!(((rd_T26 x0 x5).f0) == ((rd_T26 x1 x5).f0)) || (!((((rd_T26 x0 x5).f1).toList) == (((rd_T26 x1 x5).f1).toList)) || (!(((rd_T26 x0 x5).f2) == ((rd_T26 x1 x5).f2)) || (!(((rd_T26 x0 x5).f3) == ((rd_T26 x1 x5).f3)) || (!(((rd_T26 x0 x5).f4) == ((rd_T26 x1 x5).f4))))))) = true then (some false) else (laws_rWeavers.l0 k x0 x1 (wrap64 (x5 + 1)))) else (none)) else (none)) else (some true)
def laws_rWeavers.f (k : Nat) (l0 : List (S26)) (l1 : List (S26)) : Option (Bool) := if (l0.length : Int) = (l1.length : Int) then (laws_rWeavers.l0 k l0 l1 0) else (some false)
theorem laws_rWeavers.calls (k : Nat) (A0 : Option Addr) (c0 : Nat) (l0 : List (S26)) (A1 : Option Addr) (c1 : Nat) (l1 : List (S26)) (r : Bool) (w : World) (Ap : Kd.C k26 w A0 l0.length l0) (Aq : l0.length ≤ c0) (Ar : Kd.C k26 w A1 l1.length l1) (Au : l1.length ≤ c1) (h : laws_rWeavers.f k l0 l1 = some r) :
  Calls Tryd.prog 50 #[.slice A0 l0.length c0, .slice A1 l1.length c1] w fun e w' => e = .returned (.bool r) ∧ Drawn0 w w' := by
 have hu26 := Tryd.underlying26; have Av := Aside0.mk Ap; have Ax := Aside0.mk Aq; clear Ap Aq; have Aw := Aside0.mk Ar; have Ay := Aside0.mk Au; clear Ar Au; have H : (if (l0.length : Int) = (l1.length : Int) then (laws_rWeavers.l0 k l0 l1 0) else (some false)) = some r := h; clear h
 by_cases c3 : (l0.length : Int) = (l1.length : Int)
 ·rw [if_pos c3] at H
  have c3b0 : ((l0.length : Int) == (l1.length : Int)) = true := beq_iff_eq.mpr c3; have c3b1 : ((l0.length : Int) != (l1.length : Int)) = false := bne_eq_false_iff_eq.mpr c3
  have c3b2 : (l0.length == l1.length) = true := by first | simpa using c3 | (simp at c3 ⊢; omega)
  clear c3; have H' := Aside0.mk H; clear H
  go_enter Tryd.func50, Tryd.ntmps50
  go_wp2
  repeat (go_quiet (fail); try go_wp2)
  go_loopg [5] k (fun kq v5 w' => ∃ (Aa : Int), v5 = .int .i64 Aa ∧ Aside0 (laws_rWeavers.l0 kq l0 l1 Aa = some r) ∧ Aside0 (kq ≤ k) ∧ Drawn0 w w')
  case atStart => exact ⟨(0), Z15, H', ⟨Nat.le_refl _⟩, Z26⟩
  case round =>
   clear H'; (try clear c1); (try clear p2); (try clear c3); (try clear c3b0); (try clear c3b1); (try clear c3b2); obtain ⟨Aa, rfl, HA, HK1, ⟨m1, rfl⟩⟩ := hrel; cases gk with
   | zero => exact absurd HA.out (by simp [laws_rWeavers.l0])
   | succ k1 =>
    have H := HA.out; clear HA
    simp only [laws_rWeavers.l0] at H
    by_cases c4 : Aa < (l0.length : Int)
    ·rw [if_pos c4] at H
     have c4b0 : decide (Aa < (l0.length : Int)) = true := decide_eq_true c4; clear c4
     by_cases c5 : 0 ≤ Aa
     ·rw [if_pos c5] at H
      have c5b0 : decide (0 ≤ Aa) = true := decide_eq_true c5; clear c5
      by_cases c6 : Aa < (l1.length : Int)
      ·rw [if_pos c6] at H
       have c6b0 : decide (Aa < (l1.length : Int)) = true := decide_eq_true c6; clear c6
       by_cases c7 : (!(((rd_T26 l0 Aa).f0) == ((rd_T26 l1 Aa).f0)) || (!((((rd_T26 l0 Aa).f1).toList) == (((rd_T26 l1 Aa).f1).toList)) || (!(((rd_T26 l0 Aa).f2) == ((rd_T26 l1 Aa).f2)) || (!(((rd_T26 l0 Aa).f3) == ((rd_T26 l1 Aa).f3)) || (!(((rd_T26 l0 Aa).f4) == ((rd_T26 l1 Aa).f4))))))) = true
       ·rw [if_pos c7] at H
        have c7b0 : (!(((rd_T26 l0 Aa).f0) == ((rd_T26 l1 Aa).f0)) || (!((((rd_T26 l0 Aa).f1).toList) == (((rd_T26 l1 Aa).f1).toList)) || (!(((rd_T26 l0 Aa).f2) == ((rd_T26 l1 Aa).f2)) || (!(((rd_T26 l0 Aa).f3) == ((rd_T26 l1 Aa).f3)) || (!(((rd_T26 l0 Aa).f4) == ((rd_T26 l1 Aa).f4))))))) = true := c7; clear c7; obtain rfl := Option.some.inj H; have Ab : 0 ≤ (Aa : Int) := of_decide_eq_true Z11; have Ac : Aa < (l0.length : Int) := of_decide_eq_true Z11; obtain ⟨ad216, e216, Af, Ag, Ah, Ai, Aj⟩ := at_T26 Av.out Aa Ab Ac; cases e216; replace Ab := eq_true Ab; replace Ac := eq_true Ac; have Ad : 0 ≤ (Aa : Int) := of_decide_eq_true Z11; have Ae : Aa < (l1.length : Int) := of_decide_eq_true Z11; obtain ⟨ad217, e217, Ak, Al, Am, An, Ao⟩ := at_T26 Aw.out Aa Ad Ae; cases e217; replace Ad := eq_true Ad; replace Ae := eq_true Ae
        go_wp2
        repeat (go_quiet (fail); try go_wp2)
        go_ret
        exact ⟨Z15, Z26⟩
       ·rw [if_neg c7] at H
        have c7b0 : (!(((rd_T26 l0 Aa).f0) == ((rd_T26 l1 Aa).f0)) || (!((((rd_T26 l0 Aa).f1).toList) == (((rd_T26 l1 Aa).f1).toList)) || (!(((rd_T26 l0 Aa).f2) == ((rd_T26 l1 Aa).f2)) || (!(((rd_T26 l0 Aa).f3) == ((rd_T26 l1 Aa).f3)) || (!(((rd_T26 l0 Aa).f4) == ((rd_T26 l1 Aa).f4))))))) = false := by simpa using c7
        clear c7; have H' := Aside0.mk H; clear H; have Ab : 0 ≤ (Aa : Int) := of_decide_eq_true Z11; have Ac : Aa < (l0.length : Int) := of_decide_eq_true Z11; obtain ⟨ad216, e216, Af, Ag, Ah, Ai, Aj⟩ := at_T26 Av.out Aa Ab Ac; cases e216; replace Ab := eq_true Ab; replace Ac := eq_true Ac; have Ad : 0 ≤ (Aa : Int) := of_decide_eq_true Z11; have Ae : Aa < (l1.length : Int) := of_decide_eq_true Z11; obtain ⟨ad217, e217, Ak, Al, Am, An, Ao⟩ := at_T26 Aw.out Aa Ad Ae; cases e217; replace Ad := eq_true Ad; replace Ae := eq_true Ae
        go_wp2
        repeat (go_quiet (fail); try go_wp2)
        go_roundg k1
        case measure => have := HK1.out; omega
        case rel => exact ⟨(wrap64 (Aa + 1)), Z15, H', ⟨Z50⟩, Z26⟩
      ·rw [if_neg c6] at H
       exact absurd H (by simp)
     ·rw [if_neg c5] at H
      exact absurd H (by simp)
    ·rw [if_neg c4] at H
     have c4b0 : decide (Aa < (l0.length : Int)) = false := decide_eq_false c4; clear c4; obtain rfl := Option.some.inj H
     go_wp2
     repeat (go_quiet (fail); try go_wp2)
     go_ret
     exact ⟨Z15, Z26⟩
 ·rw [if_neg c3] at H
  have c3b0 : ((l0.length : Int) == (l1.length : Int)) = false := beq_eq_false_iff_ne.mpr c3; have c3b1 : ((l0.length : Int) != (l1.length : Int)) = true := bne_iff_ne.mpr c3
  have c3b2 : (l0.length == l1.length) = false := by first | simpa using c3 | (simp at c3 ⊢; omega)
  obtain rfl := Option.some.inj H
  go_enter Tryd.func50, Tryd.ntmps50
  go_wp2
  repeat (go_quiet (fail); try go_wp2)
  go_ret
  exact ⟨Z15, Z26⟩
def IsS85 (w0 W : World) (g : Nat) (f0 : List Int) (f1 : Int) (f2 : Int) : Prop := ∃ A0 c0, W.heap[g]? = some (.cells #[.slice A0 f0.length c0, .int .i64 f1, .int .u64 f2] 85 (0, 0)) ∧ w0.heap.size ≤ g ∧ Kd.C (Kd.int .u8) w0 A0 f0.length f0
theorem IsS85.grown {w0 W : World} {g : Nat} {f0 : List Int} {f1 : Int} {f2 : Int} {W1 : World} {row : Option Nat} (h : IsS85 w0 W g f0 f1 f2) (hw : W.grownBy W1 row) (hne : some g ≠ row) : IsS85 w0 W1 g f0 f1 f2 := by
 obtain ⟨A0, c0, hb, hg, Aa⟩ := h
 exact ⟨A0, c0, blk_grown hb hw hne, hg, Aa⟩
theorem IsS85.kept {w0 W : World} {g : Nat} {f0 : List Int} {f1 : Int} {f2 : Int} {W1 : World} {S : Nat → Prop} (h : IsS85 w0 W g f0 f1 f2) (hk : Kept W W1 S) (hne : ¬ S g) : IsS85 w0 W1 g f0 f1 f2 := by
 obtain ⟨A0, c0, hb, hg, Aa⟩ := h
 exact ⟨A0, c0, blk_kept hb hk hne, hg, Aa⟩
theorem IsS85.below {w0 W : World} {g : Nat} {f0 : List Int} {f1 : Int} {f2 : Int} {W1 : World} (h : IsS85 w0 W g f0 f1 f2) (hw : Below W.heap.size W W1) : IsS85 w0 W1 g f0 f1 f2 := h.grown (grown_of_below hw none) (by simp)
theorem IsS85.alloc {w0 W : World} {g : Nat} {f0 : List Int} {f1 : Int} {f2 : Int} (h : IsS85 w0 W g f0 f1 f2) (o : Obj) : IsS85 w0 (W.alloc o) g f0 f1 f2 := h.below (below_alloc (Below.refl _ _) o)
theorem IsS85.drewN {w0 W : World} {g : Nat} {f0 : List Int} {f1 : Int} {f2 : Int} (h : IsS85 w0 W g f0 f1 f2) (m : Nat) : IsS85 w0 (W.drewN m) g f0 f1 f2 := h
theorem IsS85.drew {w0 W : World} {g : Nat} {f0 : List Int} {f1 : Int} {f2 : Int} (h : IsS85 w0 W g f0 f1 f2) : IsS85 w0 W.drew g f0 f1 f2 := h
theorem IsS85.at_ {w0 W : World} {g : Nat} {f0 : List Int} {f1 : Int} {f2 : Int} {w' : World} {m : Nat} (hq : W.drewN m = w') (h : IsS85 w0 W g f0 f1 f2) : IsS85 w0 w' g f0 f1 f2 := by subst hq; exact IsS85.drewN h m
theorem IsS85.apart {w0 W : World} {g : Nat} {f0 : List Int} {f1 : Int} {f2 : Int} {α : Type} {d : Kd α} {e : Nat} {base : Nat} {ok : Nat → Prop} {v : Value} {xs : List α} (h : IsS85 w0 W g f0 f1 f2) (ho : d.R e W base ok v xs) (ht : ∀ q, q ∈ e :: d.E → q ≠ 85) : d.R e W base (fun k => ok k ∧ k ≠ g) v xs := by
 obtain ⟨A0, c0, hb, hg, Aa⟩ := h
 exact Kd.R_types ho hb ht
theorem IsS85.own_ne {w0 W : World} {g : Nat} {f0 : List Int} {f1 : Int} {f2 : Int} {α : Type} {d : Kd α} {e : Nat} {base : Nat} {ok : Nat → Prop} {v : Value} {xs : List α} (h : IsS85 w0 W g f0 f1 f2) (ho : d.R e W base ok v xs) (ht : e ≠ 85) : some g ≠ v.ownBlock := by
 obtain ⟨A0, c0, hb, hg, Aa⟩ := h
 exact Kd.R_ne ho hb ht
theorem IsS85.lt {w0 W : World} {g : Nat} {f0 : List Int} {f1 : Int} {f2 : Int} (h : IsS85 w0 W g f0 f1 f2) : g < W.heap.size := by
 obtain ⟨A0, c0, hb, hg, Aa⟩ := h
 exact blk_lt hb
theorem IsS85.ge {w0 W : World} {g : Nat} {f0 : List Int} {f1 : Int} {f2 : Int} (h : IsS85 w0 W g f0 f1 f2) : w0.heap.size ≤ g := by
 obtain ⟨A0, c0, hb, hg, Aa⟩ := h
 exact hg
theorem IsS85.far {w0 W : World} {g : Nat} {f0 : List Int} {f1 : Int} {f2 : Int} {p : Addr} (h : IsS85 w0 W g f0 f1 f2) (hne : g ≠ p.block) (u : Value) : IsS85 w0 (W.setCell p u) g f0 f1 f2 := by
 obtain ⟨A0, c0, hb, hg, Aa⟩ := h
 exact ⟨A0, c0, blk_far hb hne u, hg, Aa⟩
theorem cellS85_0 {W : World} {g : Nat} {A0 : Option Addr} {c0 : Nat} {f0 : List Int} {f1 : Int} {f2 : Int} (h : W.heap[g]? = some (.cells #[.slice A0 f0.length c0, .int .i64 f1, .int .u64 f2] 85 (0, 0))) : W.cell? ⟨g, 0, none⟩ = some (.slice A0 f0.length c0) := (blk_cell h 0).trans rfl
theorem cellS85_1 {W : World} {g : Nat} {A0 : Option Addr} {c0 : Nat} {f0 : List Int} {f1 : Int} {f2 : Int} (h : W.heap[g]? = some (.cells #[.slice A0 f0.length c0, .int .i64 f1, .int .u64 f2] 85 (0, 0))) : W.cell? ⟨g, 1, none⟩ = some (.int .i64 f1) := (blk_cell h 1).trans rfl
theorem IsS85.set_1 {w0 W : World} {g : Nat} {f0 : List Int} {f1 : Int} {f2 : Int} (h : IsS85 w0 W g f0 f1 f2) (x : Int) : IsS85 w0 (W.setCell ⟨g, 1, none⟩ (.int .i64 x)) g f0 x f2 := by
 obtain ⟨A0, c0, hb, hg, Aa⟩ := h
 exact ⟨A0, c0, by simpa using blk_set hb 1 (.int .i64 x), hg, Aa⟩
theorem cellS85_2 {W : World} {g : Nat} {A0 : Option Addr} {c0 : Nat} {f0 : List Int} {f1 : Int} {f2 : Int} (h : W.heap[g]? = some (.cells #[.slice A0 f0.length c0, .int .i64 f1, .int .u64 f2] 85 (0, 0))) : W.cell? ⟨g, 2, none⟩ = some (.int .u64 f2) := (blk_cell h 2).trans rfl
theorem IsS85.set_2 {w0 W : World} {g : Nat} {f0 : List Int} {f1 : Int} {f2 : Int} (h : IsS85 w0 W g f0 f1 f2) (x : Int) : IsS85 w0 (W.setCell ⟨g, 2, none⟩ (.int .u64 x)) g f0 f1 x := by
 obtain ⟨A0, c0, hb, hg, Aa⟩ := h
 exact ⟨A0, c0, by simpa using blk_set hb 2 (.int .u64 x), hg, Aa⟩
def spec_l1Cur_next.f (s0_0 : List Int) (s0_1 : Int) (s0_2 : Int) : Option (Int × Int × Int) := if s0_1 < (s0_0.length : Int) then (if 0 ≤ s0_1 then (if (wrap64 (s0_1 + 1)) ≤ (s0_0.length : Int) then (some (wrap64 (rd s0_0 s0_1), wrap64 (s0_1 + 1), IntKind.u64.wrap ((IntKind.u64.wrap ((IntKind.u64.wrap (s0_2 * 6364136223846793005)) + (IntKind.u64.wrap (wrap64 (rd s0_0 s0_1))))) + 102323))) else (some (wrap64 (Go.bits .and .u64 ((IntKind.u64.wrap ((IntKind.u64.wrap ((IntKind.u64.wrap (s0_2 * 6364136223846793005)) + (IntKind.u64.wrap (wrap64 (rd s0_0 s0_1))))) + 102323)) / 1099511627776) 255), wrap64 (s0_1 + 1), IntKind.u64.wrap ((IntKind.u64.wrap ((IntKind.u64.wrap (s0_2 * 6364136223846793005)) + (IntKind.u64.wrap (wrap64 (rd s0_0 s0_1))))) + 102323)))) else (none)) else (if (wrap64 (s0_1 + 1)) ≤ (s0_0.length : Int) then (some (0, wrap64 (s0_1 + 1), IntKind.u64.wrap ((IntKind.u64.wrap ((IntKind.u64.wrap (s0_2 * 6364136223846793005)))) + 102323))) else (some (wrap64 (Go.bits .and .u64 ((IntKind.u64.wrap ((IntKind.u64.wrap ((IntKind.u64.wrap (s0_2 * 6364136223846793005)))) + 102323)) / 1099511627776) 255), wrap64 (s0_1 + 1), IntKind.u64.wrap ((IntKind.u64.wrap ((IntKind.u64.wrap (s0_2 * 6364136223846793005)))) + 102323))))
theorem spec_l1Cur_next.calls (g : Nat) (Ab : List Int) (Aa : Int) (Ad : Int) (r1 : Int) (r2 : Int) (r3 : Int) (w0 w : World) (hI : IsS85 w0 w g Ab Aa Ad) (hB : Below w0.heap.size w0 w) (h : spec_l1Cur_next.f Ab Aa Ad = some (r1, r2, r3)) :
  Calls Tryd.prog 105 #[.pointer (some ⟨g, 0, none⟩)] w fun e w' => e = .returned (.int .i64 r1) ∧ IsS85 w0 w' g Ab r2 r3 ∧ Below w0.heap.size w0 w' ∧ KeepBut w w' g none := by
 have HI0 := Aside0.mk hI; have HK := aM (KeepBut.refl w g none); have HL := Aside0.mk hB.size; clear hI; have Bc := Aside0.mk hB.size; have HB := Aside0.mk hB; clear hB; have H : (if Aa < (Ab.length : Int) then (if 0 ≤ Aa then (if (wrap64 (Aa + 1)) ≤ (Ab.length : Int) then (some (wrap64 (rd Ab Aa), wrap64 (Aa + 1), IntKind.u64.wrap ((IntKind.u64.wrap ((IntKind.u64.wrap (Ad * 6364136223846793005)) + (IntKind.u64.wrap (wrap64 (rd Ab Aa))))) + 102323))) else (some (wrap64 (Go.bits .and .u64 ((IntKind.u64.wrap ((IntKind.u64.wrap ((IntKind.u64.wrap (Ad * 6364136223846793005)) + (IntKind.u64.wrap (wrap64 (rd Ab Aa))))) + 102323)) / 1099511627776) 255), wrap64 (Aa + 1), IntKind.u64.wrap ((IntKind.u64.wrap ((IntKind.u64.wrap (Ad * 6364136223846793005)) + (IntKind.u64.wrap (wrap64 (rd Ab Aa))))) + 102323)))) else (none)) else (if (wrap64 (Aa + 1)) ≤ (Ab.length : Int) then (some (0, wrap64 (Aa + 1), IntKind.u64.wrap ((IntKind.u64.wrap ((IntKind.u64.wrap (Ad * 6364136223846793005)))) + 102323))) else (some (wrap64 (Go.bits .and .u64 ((IntKind.u64.wrap ((IntKind.u64.wrap ((IntKind.u64.wrap (Ad * 6364136223846793005)))) + 102323)) / 1099511627776) 255), wrap64 (Aa + 1), IntKind.u64.wrap ((IntKind.u64.wrap ((IntKind.u64.wrap (Ad * 6364136223846793005)))) + 102323))))) = some (r1, r2, r3) := h; clear h
 by_cases c2 : Aa < (Ab.length : Int)
 ·rw [if_pos c2] at H
  have c2b0 : decide (Aa < (Ab.length : Int)) = true := decide_eq_true c2; clear c2
  by_cases c3 : 0 ≤ Aa
  ·rw [if_pos c3] at H
   have c3b0 : decide (0 ≤ Aa) = true := decide_eq_true c3; clear c3
   by_cases c4 : (wrap64 (Aa + 1)) ≤ (Ab.length : Int)
   ·rw [if_pos c4] at H
    have c4b0 : decide ((wrap64 (Aa + 1)) ≤ (Ab.length : Int)) = true := decide_eq_true c4; clear c4
    simp only [Option.some.injEq, Prod.mk.injEq] at H
    obtain ⟨rfl, rfl, rfl⟩ := H; obtain ⟨ASz5_0, cSz5_0, HGz5, hgz5, HSz5_0⟩ := HI0.out; have Ag := cellS85_0 HGz5; have Ah := cellS85_1 HGz5; have Ai := cellS85_2 HGz5; have Aj := blk_frozen HGz5 1; have Ak := blk_frozen HGz5 2; clear HGz5 hgz5; have Ae : 0 ≤ (Aa : Int) := of_decide_eq_true Z11; have Af : Aa < (Ab.length : Int) := of_decide_eq_true Z11; obtain ⟨ad218, e218, Ac⟩ := Kd.at_int HSz5_0 Aa Ae Af; cases e218; replace Ac := pw_cell_below HB.out Ac; replace Ae := eq_true Ae; replace Af := eq_true Af
    go_enter Tryd.func105, Tryd.ntmps105
    go_wp2
    repeat (go_quiet (fail); try go_wp2)
    go_ret
    exact ⟨Z13, Z2, Z6, Z5⟩
   ·rw [if_neg c4] at H
    have c4b0 : decide ((wrap64 (Aa + 1)) ≤ (Ab.length : Int)) = false := decide_eq_false c4; clear c4
    simp only [Option.some.injEq, Prod.mk.injEq] at H
    obtain ⟨rfl, rfl, rfl⟩ := H; obtain ⟨ASz6_0, cSz6_0, HGz6, hgz6, HSz6_0⟩ := HI0.out; have Al := cellS85_0 HGz6; have Am := cellS85_1 HGz6; have An := cellS85_2 HGz6; have Ao := blk_frozen HGz6 1; have Ap := blk_frozen HGz6 2; clear HGz6 hgz6; have Ae : 0 ≤ (Aa : Int) := of_decide_eq_true Z11; have Af : Aa < (Ab.length : Int) := of_decide_eq_true Z11; obtain ⟨ad218, e218, Ac⟩ := Kd.at_int HSz6_0 Aa Ae Af; cases e218; replace Ac := pw_cell_below HB.out Ac; replace Ae := eq_true Ae; replace Af := eq_true Af
    go_enter Tryd.func105, Tryd.ntmps105
    go_wp2
    repeat (go_quiet (fail); try go_wp2)
    go_ret
    exact ⟨Z13, Z2, Z6, Z5⟩
  ·rw [if_neg c3] at H
   exact absurd H (by simp)
 ·rw [if_neg c2] at H
  have c2b0 : decide (Aa < (Ab.length : Int)) = false := decide_eq_false c2; clear c2
  by_cases c7 : (wrap64 (Aa + 1)) ≤ (Ab.length : Int)
  ·rw [if_pos c7] at H
   have c7b0 : decide ((wrap64 (Aa + 1)) ≤ (Ab.length : Int)) = true := decide_eq_true c7; clear c7
   simp only [Option.some.injEq, Prod.mk.injEq] at H
   obtain ⟨rfl, rfl, rfl⟩ := H; obtain ⟨ASz8_0, cSz8_0, HGz8, hgz8, HSz8_0⟩ := HI0.out; have Aq := cellS85_0 HGz8; have Ar := cellS85_1 HGz8; have Au := cellS85_2 HGz8; have Av := blk_frozen HGz8 1; have Aw := blk_frozen HGz8 2; clear HGz8 hgz8
   go_enter Tryd.func105, Tryd.ntmps105
   go_wp2
   repeat (go_quiet (fail); try go_wp2)
   go_ret
   exact ⟨Z13, Z2, Z6, Z5⟩
  ·rw [if_neg c7] at H
   have c7b0 : decide ((wrap64 (Aa + 1)) ≤ (Ab.length : Int)) = false := decide_eq_false c7; clear c7
   simp only [Option.some.injEq, Prod.mk.injEq] at H
   obtain ⟨rfl, rfl, rfl⟩ := H; obtain ⟨ASz9_0, cSz9_0, HGz9, hgz9, HSz9_0⟩ := HI0.out; have Ax := cellS85_0 HGz9; have Ay := cellS85_1 HGz9; have Az := cellS85_2 HGz9; have Ba := blk_frozen HGz9 1; have Bb := blk_frozen HGz9 2; clear HGz9 hgz9
   go_enter Tryd.func105, Tryd.ntmps105
   go_wp2
   repeat (go_quiet (fail); try go_wp2)
   go_ret
   exact ⟨Z13, Z2, Z6, Z5⟩
end Go.Proofs.YthalifhbjioaeaaDoor.H
