-- by wip/pack.py of this repo
import Derived.Test.YthalifhbjioaeaaDoorZ11Hx0
import Derived.Test.YthalifhbjioaeaaDoorZ11Hx5
import Derived.Test.YthalifhbjioaeaaDoorZ11WLast
import Derived.Test.YthalifhbjioaeaaDoorZ11WMore
import Derived.Test.YthalifhbjioaeaaDoorZ11WWords
import Derived.Test.YthalifhbjioaeaaDoorZ11Short
namespace Go.Proofs.YthalifhbjioaeaaDoor.H
open Go.RowKit Go.Proofs.YthalifhbjioaeaaDoorW.PrintWords Go.Proofs.YthalifhbjioaeaaDoorW.PrintLast Go.Proofs.YthalifhbjioaeaaDoorW.PrintMore
attribute [local go_sem] max2_int min2_int max_two min_two max_three min_three max_four min_four
set_option maxHeartbeats 8000000
set_option maxRecDepth 100000
set_option linter.unusedVariables false
set_option linter.unusedSimpArgs false
def spec_l1Cur_pick.f (s0_0 : List Int) (s0_1 : Int) (s0_2 : Int) (a1 : Int) : Option (Int × Int × Int) := if a1 ≤ 1 then (some (0, s0_1, s0_2)) else ((spec_l1Cur_next.f s0_0 s0_1 s0_2).bind fun bt219 => (if a1 > 200 then ((spec_l1Cur_next.f s0_0 bt219.2.1 bt219.2.2).bind fun bt222 => (if a1 = 0 then (none) else (some (Int.tmod (wrap64 ((wrap64 (bt219.1 * 256)) + bt222.1)) a1, bt222.2.1, bt222.2.2)))) else (if a1 = 0 then (none) else (some (Int.tmod bt219.1 a1, bt219.2.1, bt219.2.2)))))
theorem spec_l1Cur_pick.calls (g : Nat) (Ac : List Int) (Ad : Int) (Ae : Int) (a1 : Int) (r1 : Int) (r2 : Int) (r3 : Int) (w0 w : World) (hI : IsS85 w0 w g Ac Ad Ae) (hB : Below w0.heap.size w0 w) (h : spec_l1Cur_pick.f Ac Ad Ae a1 = some (r1, r2, r3)) :
  Calls Tryd.prog 93 #[.pointer (some ⟨g, 0, none⟩), .int .i64 a1] w fun e w' => e = .returned (.int .i64 r1) ∧ IsS85 w0 w' g Ac r2 r3 ∧ Below w0.heap.size w0 w' ∧ KeepBut w w' g none := by
 have HI0 := Aside0.mk hI; have HK := aM (KeepBut.refl w g none); have HL := Aside0.mk hB.size; clear hI; have Ao := Aside0.mk hB.size; have HB := Aside0.mk hB; clear hB; have H : (if a1 ≤ 1 then (some (0, Ad, Ae)) else ((spec_l1Cur_next.f Ac Ad Ae).bind fun Ab => (if a1 > 200 then ((spec_l1Cur_next.f Ac Ab.2.1 Ab.2.2).bind fun Aa => (if a1 = 0 then (none) else (some (Int.tmod (wrap64 ((wrap64 (Ab.1 * 256)) + Aa.1)) a1, Aa.2.1, Aa.2.2)))) else (if a1 = 0 then (none) else (some (Int.tmod Ab.1 a1, Ab.2.1, Ab.2.2)))))) = some (r1, r2, r3) := h; clear h
 by_cases c3 : a1 ≤ 1
 ·rw [if_pos c3] at H
  have c3b0 : decide (a1 ≤ 1) = true := decide_eq_true c3; clear c3
  simp only [Option.some.injEq, Prod.mk.injEq] at H
  obtain ⟨rfl, rfl, rfl⟩ := H
  go_enter Tryd.func93, Tryd.ntmps93
  go_wp2
  go_ret
  exact ⟨Z13, Z2, Z6, Z5⟩
 ·rw [if_neg c3] at H
  have c3b0 : decide (a1 ≤ 1) = false := decide_eq_false c3; clear c3; replace H := Option.bind_eq_some_iff.mp H; obtain ⟨⟨Af, Ag, Ah⟩, Am, H⟩ := H; replace H : (if a1 > 200 then ((spec_l1Cur_next.f Ac Ag Ah).bind fun Aa => (if a1 = 0 then (none) else (some (Int.tmod (wrap64 ((wrap64 (Af * 256)) + Aa.1)) a1, Aa.2.1, Aa.2.2)))) else (if a1 = 0 then (none) else (some (Int.tmod Af a1, Ag, Ah)))) = some (r1, r2, r3) := H; have A4 := Aside0.mk Am; clear Am
  by_cases c5 : a1 > 200
  ·rw [if_pos c5] at H
   have c5b0 : decide (200 < a1) = true := decide_eq_true c5; clear c5; replace H := Option.bind_eq_some_iff.mp H; obtain ⟨⟨Ai, Aj, Ak⟩, An, H⟩ := H; replace H : (if a1 = 0 then (none) else (some (Int.tmod (wrap64 ((wrap64 (Af * 256)) + Ai)) a1, Aj, Ak))) = some (r1, r2, r3) := H; have A6 := Aside0.mk An; clear An
   by_cases c7 : a1 = 0
   ·rw [if_pos c7] at H
    exact absurd H (by simp)
   ·rw [if_neg c7] at H
    have c7b0 : (a1 == 0) = false := beq_eq_false_iff_ne.mpr c7; have c7b1 : (a1 != 0) = true := bne_iff_ne.mpr c7
    simp only [Option.some.injEq, Prod.mk.injEq] at H
    obtain ⟨rfl, rfl, rfl⟩ := H
    go_enter Tryd.func93, Tryd.ntmps93
    go_wp2_with (first | ((with_reducible refine gate_callee (f := 105) rfl ?_); refine glE (some 9) Tryd.func105 #[.pointer (some ⟨g, 0, none⟩)] ?_; (with_reducible refine (spec_l1Cur_next.calls g Ac Ad Ae Af Ag Ah w0 _ ?side1 ?side2 A4.out).mono ?_); (case side1 => exact Z2); (case side2 => exact Z6); rintro e w8 ⟨rfl, hi, hb, hk⟩; refine ⟨_, rfl, ?_⟩; replace HK := aM (KeepBut.trans Z5 hk (.inl rfl)); replace HB := aM (hb); replace HI0 := aM (hi); (try clear hb); (try clear hk); (try clear hi)) | ((with_reducible refine gate_callee (f := 105) rfl ?_); refine glE (some 15) Tryd.func105 #[.pointer (some ⟨g, 0, none⟩)] ?_; (with_reducible refine (spec_l1Cur_next.calls g Ac Ag Ah Ai Aj Ak w0 _ ?side1 ?side2 A6.out).mono ?_); (case side1 => exact Z2); (case side2 => exact Z6); rintro e w9 ⟨rfl, hi, hb, hk⟩; refine ⟨_, rfl, ?_⟩; replace HK := aM (KeepBut.trans Z5 hk (.inl rfl)); replace HB := aM (hb); replace HI0 := aM (hi); (try clear hb); (try clear hk); (try clear hi)))
    go_ret
    exact ⟨Z13, Z2, Z6, Z5⟩
  ·rw [if_neg c5] at H
   have c5b0 : decide (200 < a1) = false := decide_eq_false c5; clear c5
   by_cases Al : a1 = 0
   ·rw [if_pos Al] at H
    exact absurd H (by simp)
   ·rw [if_neg Al] at H
    have c10b0 : (a1 == 0) = false := beq_eq_false_iff_ne.mpr Al; have c10b1 : (a1 != 0) = true := bne_iff_ne.mpr Al
    simp only [Option.some.injEq, Prod.mk.injEq] at H
    obtain ⟨rfl, rfl, rfl⟩ := H
    go_enter Tryd.func93, Tryd.ntmps93
    go_wp2_with (first | ((with_reducible refine gate_callee (f := 105) rfl ?_); refine glE (some 9) Tryd.func105 #[.pointer (some ⟨g, 0, none⟩)] ?_; (with_reducible refine (spec_l1Cur_next.calls g Ac Ad Ae Af Ag Ah w0 _ ?side1 ?side2 A4.out).mono ?_); (case side1 => exact Z2); (case side2 => exact Z6); rintro e Ap ⟨rfl, hi, hb, hk⟩; refine ⟨_, rfl, ?_⟩; replace HK := aM (KeepBut.trans Z5 hk (.inl rfl)); replace HB := aM (hb); replace HI0 := aM (hi); (try clear hb); (try clear hk); (try clear hi)))
    go_ret
    exact ⟨Z13, Z2, Z6, Z5⟩
def spec_l1Cur_among.f (s0_0 : List Int) (s0_1 : Int) (s0_2 : Int) (l1 : List Int) : Option (Int × Int × Int) := (spec_l1Cur_pick.f s0_0 s0_1 s0_2 (l1.length : Int)).bind fun bt225 => (if 0 ≤ bt225.1 then (if bt225.1 < (l1.length : Int) then (some (rd l1 bt225.1, bt225.2.1, bt225.2.2)) else (none)) else (none))
theorem spec_l1Cur_among.calls (g : Nat) (Ad : List Int) (Ae : Int) (Af : Int) (A1 : Option Addr) (c1 : Nat) (l1 : List Int) (r1 : Int) (r2 : Int) (r3 : Int) (w0 w : World) (hI : IsS85 w0 w g Ad Ae Af) (hB : Below w0.heap.size w0 w) (Al : Kd.C (Kd.int .i64) w A1 l1.length l1) (Am : l1.length ≤ c1) (Ak : ∀ ad, A1 = some ad → 0 < l1.length → ad.block ≠ g) (h : spec_l1Cur_among.f Ad Ae Af l1 = some (r1, r2, r3)) :
  Calls Tryd.prog 92 #[.pointer (some ⟨g, 0, none⟩), .slice A1 l1.length c1] w fun e w' => e = .returned (.int .i64 r1) ∧ IsS85 w0 w' g Ad r2 r3 ∧ Below w0.heap.size w0 w' ∧ KeepBut w w' g none := by
 have Ao := Aside0.mk Al; have Ap := Aside0.mk Am; clear Al Am; have HI0 := Aside0.mk hI; have HK := aM (KeepBut.refl w g none); have HL := Aside0.mk hB.size; clear hI; have Aq := Aside0.mk hB.size; have HB := Aside0.mk hB; clear hB; have H : ((spec_l1Cur_pick.f Ad Ae Af (l1.length : Int)).bind fun Ab => (if 0 ≤ Ab.1 then (if Ab.1 < (l1.length : Int) then (some (rd l1 Ab.1, Ab.2.1, Ab.2.2)) else (none)) else (none))) = some (r1, r2, r3) := h; clear h; replace H := Option.bind_eq_some_iff.mp H; obtain ⟨⟨Aa, Ai, Aj⟩, An, H⟩ := H; replace H : (if 0 ≤ Aa then (if Aa < (l1.length : Int) then (some (rd l1 Aa, Ai, Aj)) else (none)) else (none)) = some (r1, r2, r3) := H; have A3 := Aside0.mk An; clear An
 by_cases c4 : 0 ≤ Aa
 ·rw [if_pos c4] at H
  have c4b0 : decide (0 ≤ Aa) = true := decide_eq_true c4; clear c4
  by_cases c5 : Aa < (l1.length : Int)
  ·rw [if_pos c5] at H
   have c5b0 : decide (Aa < (l1.length : Int)) = true := decide_eq_true c5; clear c5
   simp only [Option.some.injEq, Prod.mk.injEq] at H
   obtain ⟨rfl, rfl, rfl⟩ := H
   go_enter Tryd.func92, Tryd.ntmps92
   go_wp2_with (first | ((with_reducible refine gate_callee (f := 93) rfl ?_); refine glE (some 9) Tryd.func93 #[.pointer (some ⟨g, 0, none⟩), .int .i64 (l1.length : Int)] ?_; (with_reducible refine (spec_l1Cur_pick.calls g Ad Ae Af (l1.length : Int) Aa Ai Aj w0 _ ?side1 ?side2 A3.out).mono ?_); (case side1 => exact Z2); (case side2 => exact Z6); rintro e w6 ⟨rfl, hi, hb, hk⟩; refine ⟨_, rfl, ?_⟩; replace HK := aM (KeepBut.trans Z5 hk (.inl rfl)); replace HB := aM (hb); replace HI0 := aM (hi); (try clear hb); (try clear hk); (try clear hi); have Ag : 0 ≤ (Aa : Int) := of_decide_eq_true Z11; have Ah : Aa < (l1.length : Int) := of_decide_eq_true Z11; obtain ⟨ad228, e228, Ac⟩ := Kd.at_int Ao.out Aa Ag Ah; cases e228; replace Ac := keep_cell HK.out Ac (by first | (rw [add_block]; exact Ak _ rfl (by omega)) | exact Ak _ rfl (by omega) | exact Ak ad228 rfl (by omega)); replace Ag := eq_true Ag; replace Ah := eq_true Ah))
   go_ret
   exact ⟨Z13, Z2, Z6, Z5⟩
  ·rw [if_neg c5] at H
   exact absurd H (by simp)
 ·rw [if_neg c4] at H
  exact absurd H (by simp)
def spec_l1Cur_of.f (s0_0 : List Int) (s0_1 : Int) (s0_2 : Int) (l1 : List ByteArray) : Option (ByteArray × Int × Int) := (spec_l1Cur_pick.f s0_0 s0_1 s0_2 (l1.length : Int)).bind fun bt229 => (if 0 ≤ bt229.1 then (if bt229.1 < (l1.length : Int) then (some (rdOf ByteArray.empty l1 bt229.1, bt229.2.1, bt229.2.2)) else (none)) else (none))
theorem spec_l1Cur_of.calls (g : Nat) (Ad : List Int) (Ae : Int) (Af : Int) (A1 : Option Addr) (c1 : Nat) (l1 : List ByteArray) (r1 : ByteArray) (r2 : Int) (r3 : Int) (w0 w : World) (hI : IsS85 w0 w g Ad Ae Af) (hB : Below w0.heap.size w0 w) (Al : Kd.C Kd.string w A1 l1.length l1) (Am : l1.length ≤ c1) (Ak : ∀ ad, A1 = some ad → 0 < l1.length → ad.block ≠ g) (h : spec_l1Cur_of.f Ad Ae Af l1 = some (r1, r2, r3)) :
  Calls Tryd.prog 106 #[.pointer (some ⟨g, 0, none⟩), .slice A1 l1.length c1] w fun e w' => e = .returned (.string r1) ∧ IsS85 w0 w' g Ad r2 r3 ∧ Below w0.heap.size w0 w' ∧ KeepBut w w' g none := by
 have Ao := Aside0.mk Al; have Ap := Aside0.mk Am; clear Al Am; have HI0 := Aside0.mk hI; have HK := aM (KeepBut.refl w g none); have HL := Aside0.mk hB.size; clear hI; have Aq := Aside0.mk hB.size; have HB := Aside0.mk hB; clear hB; have H : ((spec_l1Cur_pick.f Ad Ae Af (l1.length : Int)).bind fun Ab => (if 0 ≤ Ab.1 then (if Ab.1 < (l1.length : Int) then (some (rdOf ByteArray.empty l1 Ab.1, Ab.2.1, Ab.2.2)) else (none)) else (none))) = some (r1, r2, r3) := h; clear h; replace H := Option.bind_eq_some_iff.mp H; obtain ⟨⟨Aa, Ai, Aj⟩, An, H⟩ := H; replace H : (if 0 ≤ Aa then (if Aa < (l1.length : Int) then (some (rdOf ByteArray.empty l1 Aa, Ai, Aj)) else (none)) else (none)) = some (r1, r2, r3) := H; have A3 := Aside0.mk An; clear An
 by_cases c4 : 0 ≤ Aa
 ·rw [if_pos c4] at H
  have c4b0 : decide (0 ≤ Aa) = true := decide_eq_true c4; clear c4
  by_cases c5 : Aa < (l1.length : Int)
  ·rw [if_pos c5] at H
   have c5b0 : decide (Aa < (l1.length : Int)) = true := decide_eq_true c5; clear c5
   simp only [Option.some.injEq, Prod.mk.injEq] at H
   obtain ⟨rfl, rfl, rfl⟩ := H
   go_enter Tryd.func106, Tryd.ntmps106
   go_wp2_with (first | ((with_reducible refine gate_callee (f := 93) rfl ?_); refine glE (some 9) Tryd.func93 #[.pointer (some ⟨g, 0, none⟩), .int .i64 (l1.length : Int)] ?_; (with_reducible refine (spec_l1Cur_pick.calls g Ad Ae Af (l1.length : Int) Aa Ai Aj w0 _ ?side1 ?side2 A3.out).mono ?_); (case side1 => exact Z2); (case side2 => exact Z6); rintro e w6 ⟨rfl, hi, hb, hk⟩; refine ⟨_, rfl, ?_⟩; replace HK := aM (KeepBut.trans Z5 hk (.inl rfl)); replace HB := aM (hb); replace HI0 := aM (hi); (try clear hb); (try clear hk); (try clear hi); have Ag : 0 ≤ (Aa : Int) := of_decide_eq_true Z11; have Ah : Aa < (l1.length : Int) := of_decide_eq_true Z11; obtain ⟨ad232, e232, Ac⟩ := Kd.at_string Ao.out Aa Ag Ah; cases e232; replace Ac := keep_cell HK.out Ac (by first | (rw [add_block]; exact Ak _ rfl (by omega)) | exact Ak _ rfl (by omega) | exact Ak ad232 rfl (by omega)); replace Ag := eq_true Ag; replace Ah := eq_true Ah))
   go_ret
   exact ⟨Z13, Z2, Z6, Z5⟩
  ·rw [if_neg c5] at H
   exact absurd H (by simp)
 ·rw [if_neg c4] at H
  exact absurd H (by simp)
def spec_l1Cur_weaver.f (s0_0 : List Int) (s0_1 : Int) (s0_2 : Int) (a1 : Int) : Option (Int × ByteArray × Int × Int × Int × Int × Int) := (spec_l1Cur_of.f s0_0 s0_1 s0_2 (([(⟨#[97, 121, 115, 101]⟩ : ByteArray), (⟨#[100, 105, 108, 101, 107]⟩ : ByteArray), (⟨#[111, 109, 105, 100]⟩ : ByteArray)] : List ByteArray))).bind fun bt237 => ((spec_l1Cur_among.f s0_0 bt237.2.1 bt237.2.2 (([1, 1, 2, 3, 5, 8, 15] : List Int))).bind fun bt243 => ((spec_l1Cur_among.f s0_0 bt243.2.1 bt243.2.2 (([100, 6000, 6000, 7500, 12000] : List Int))).bind fun bt249 => ((spec_l1Cur_among.f s0_0 bt249.2.1 bt249.2.2 (([0, 0, 3, 3, 4, 99] : List Int))).bind fun bt255 => ((spec_l1Cur_pick.f s0_0 bt255.2.1 bt255.2.2 70).bind fun bt259 => (if bt259.1 = 0 then ((spec_l1Cur_among.f s0_0 bt259.2.1 bt259.2.2 (([0, 99, 100] : List Int))).bind fun bt265 => (some (bt265.1, bt237.1, bt243.1, bt249.1, bt255.1, bt265.2.1, bt265.2.2))) else (if bt259.1 = 1 then ((spec_l1Cur_of.f s0_0 bt259.2.1 bt259.2.2 (([(⟨#[]⟩ : ByteArray), (⟨#[65]⟩ : ByteArray), (⟨#[97, 98, 99, 100, 101, 102, 103, 104, 105, 106, 107]⟩ : ByteArray)] : List ByteArray))).bind fun bt271 => (some (a1, bt271.1, bt243.1, bt249.1, bt255.1, bt271.2.1, bt271.2.2))) else (if bt259.1 = 2 then ((spec_l1Cur_among.f s0_0 bt259.2.1 bt259.2.2 (([0, 16] : List Int))).bind fun bt277 => (some (a1, bt237.1, bt277.1, bt249.1, bt255.1, bt277.2.1, bt277.2.2))) else (if bt259.1 = 3 then ((spec_l1Cur_among.f s0_0 bt259.2.1 bt259.2.2 (([99, 12001] : List Int))).bind fun bt283 => (some (a1, bt237.1, bt243.1, bt283.1, bt255.1, bt283.2.1, bt283.2.2))) else (if bt259.1 = 4 then ((spec_l1Cur_among.f s0_0 bt259.2.1 bt259.2.2 (([(-1), 100] : List Int))).bind fun bt289 => (some (a1, bt237.1, bt243.1, bt249.1, bt289.1, bt289.2.1, bt289.2.2))) else (some (a1, bt237.1, bt243.1, bt249.1, bt255.1, bt259.2.1, bt259.2.2)))))))))))
end Go.Proofs.YthalifhbjioaeaaDoor.H
