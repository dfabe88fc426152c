-- by wip/pack.py of this repo
import Derived.Test.YtfeighajmkcjfaaGreatDoorZ01Hx0
import Derived.Test.YtfeighajmkcjfaaGreatDoorZ01WApart
import Derived.Test.YtfeighajmkcjfaaGreatDoorZ01WKept
import Derived.Test.YtfeighajmkcjfaaGreatDoorZ01WLast
import Derived.Test.YtfeighajmkcjfaaGreatDoorZ01WMore
import Derived.Test.YtfeighajmkcjfaaGreatDoorZ01WN
import Derived.Test.YtfeighajmkcjfaaGreatDoorZ01WRepsOne
import Derived.Test.YtfeighajmkcjfaaGreatDoorZ01WTab
import Derived.Test.YtfeighajmkcjfaaGreatDoorZ01WWords
import Derived.Test.YtfeighajmkcjfaaGreatDoorZ01Short
namespace Go.Proofs.YtfeighajmkcjfaaGreatDoor.H
open Go.RowKit Go.Proofs.YtfeighajmkcjfaaGreatDoorW.PrintWords Go.Proofs.YtfeighajmkcjfaaGreatDoorW.PrintLast Go.Proofs.YtfeighajmkcjfaaGreatDoorW.PrintMore
attribute [local go_sem] max2_int min2_int max_two min_two max_three min_three max_four min_four
set_option maxHeartbeats 8000000
set_option maxRecDepth 100000
set_option linter.unusedVariables false
set_option linter.unusedSimpArgs false
def laws_rBig.f (l0 : List Int) : Option (Bool) := some (decide ((l0.length : Int) > 65536))
theorem laws_rBig.calls (A0 : Option Addr) (c0 : Nat) (l0 : List Int) (r : Bool) (w : World) (Aa : Kd.C (Kd.int .u8) w A0 l0.length l0) (Ab : l0.length ≤ c0) (h : laws_rBig.f l0 = some r) :
  Calls Tryz.prog 4 #[.slice A0 l0.length c0] w fun e w' => e = .returned (.bool r) ∧ Drawn0 w w' := by
 have Ac := Aside0.mk Aa; have Ad := Aside0.mk Ab; clear Aa Ab; have H : (some (decide ((l0.length : Int) > 65536))) = some r := h; clear h; obtain rfl := Option.some.inj H
 go_enter Tryz.func4, Tryz.ntmps4
 go_wp2
 go_ret
 exact ⟨Z12, Z37⟩
def IsS46 (w0 W : World) (g : Nat) (f0 : List Int) (f1 : Int) (f2 : Int) : Prop := ∃ A0 c0, W.heap[g]? = some (.cells #[.slice A0 f0.length c0, .int .i64 f1, .int .u64 f2] 46 (0, 0)) ∧ w0.heap.size ≤ g ∧ Kd.C (Kd.int .u8) w0 A0 f0.length f0
theorem IsS46.grown {w0 W : World} {g : Nat} {f0 : List Int} {f1 : Int} {f2 : Int} {W1 : World} {row : Option Nat} (h : IsS46 w0 W g f0 f1 f2) (hw : W.grownBy W1 row) (hne : some g ≠ row) : IsS46 w0 W1 g f0 f1 f2 := by
 obtain ⟨A0, c0, hb, hg, Aa⟩ := h
 exact ⟨A0, c0, blk_grown hb hw hne, hg, Aa⟩
theorem IsS46.kept {w0 W : World} {g : Nat} {f0 : List Int} {f1 : Int} {f2 : Int} {W1 : World} {S : Nat → Prop} (h : IsS46 w0 W g f0 f1 f2) (hk : Kept W W1 S) (hne : ¬ S g) : IsS46 w0 W1 g f0 f1 f2 := by
 obtain ⟨A0, c0, hb, hg, Aa⟩ := h
 exact ⟨A0, c0, blk_kept hb hk hne, hg, Aa⟩
theorem IsS46.below {w0 W : World} {g : Nat} {f0 : List Int} {f1 : Int} {f2 : Int} {W1 : World} (h : IsS46 w0 W g f0 f1 f2) (hw : Below W.heap.size W W1) : IsS46 w0 W1 g f0 f1 f2 := h.grown (grown_of_below hw none) (by simp)
theorem IsS46.alloc {w0 W : World} {g : Nat} {f0 : List Int} {f1 : Int} {f2 : Int} (h : IsS46 w0 W g f0 f1 f2) (o : Obj) : IsS46 w0 (W.alloc o) g f0 f1 f2 := h.below (below_alloc (Below.refl _ _) o)
theorem IsS46.drewN {w0 W : World} {g : Nat} {f0 : List Int} {f1 : Int} {f2 : Int} (h : IsS46 w0 W g f0 f1 f2) (m : Nat) : IsS46 w0 (W.drewN m) g f0 f1 f2 := h
theorem IsS46.drew {w0 W : World} {g : Nat} {f0 : List Int} {f1 : Int} {f2 : Int} (h : IsS46 w0 W g f0 f1 f2) : IsS46 w0 W.drew g f0 f1 f2 := h
theorem IsS46.at_ {w0 W : World} {g : Nat} {f0 : List Int} {f1 : Int} {f2 : Int} {w' : World} {m : Nat} (hq : W.drewN m = w') (h : IsS46 w0 W g f0 f1 f2) : IsS46 w0 w' g f0 f1 f2 := by subst hq; exact IsS46.drewN h m
theorem IsS46.apart {w0 W : World} {g : Nat} {f0 : List Int} {f1 : Int} {f2 : Int} {α : Type} {d : Kd α} {e : Nat} {base : Nat} {ok : Nat → Prop} {v : Value} {xs : List α} (h : IsS46 w0 W g f0 f1 f2) (ho : d.R e W base ok v xs) (ht : ∀ q, q ∈ e :: d.E → q ≠ 46) : d.R e W base (fun k => ok k ∧ k ≠ g) v xs := by
 obtain ⟨A0, c0, hb, hg, Aa⟩ := h
 exact Kd.R_types ho hb ht
theorem IsS46.own_ne {w0 W : World} {g : Nat} {f0 : List Int} {f1 : Int} {f2 : Int} {α : Type} {d : Kd α} {e : Nat} {base : Nat} {ok : Nat → Prop} {v : Value} {xs : List α} (h : IsS46 w0 W g f0 f1 f2) (ho : d.R e W base ok v xs) (ht : e ≠ 46) : some g ≠ v.ownBlock := by
 obtain ⟨A0, c0, hb, hg, Aa⟩ := h
 exact Kd.R_ne ho hb ht
theorem IsS46.lt {w0 W : World} {g : Nat} {f0 : List Int} {f1 : Int} {f2 : Int} (h : IsS46 w0 W g f0 f1 f2) : g < W.heap.size := by
 obtain ⟨A0, c0, hb, hg, Aa⟩ := h
 exact blk_lt hb
theorem IsS46.ge {w0 W : World} {g : Nat} {f0 : List Int} {f1 : Int} {f2 : Int} (h : IsS46 w0 W g f0 f1 f2) : w0.heap.size ≤ g := by
 obtain ⟨A0, c0, hb, hg, Aa⟩ := h
 exact hg
theorem IsS46.far {w0 W : World} {g : Nat} {f0 : List Int} {f1 : Int} {f2 : Int} {p : Addr} (h : IsS46 w0 W g f0 f1 f2) (hne : g ≠ p.block) (u : Value) : IsS46 w0 (W.setCell p u) g f0 f1 f2 := by
 obtain ⟨A0, c0, hb, hg, Aa⟩ := h
 exact ⟨A0, c0, blk_far hb hne u, hg, Aa⟩
theorem cellS46_0 {W : World} {g : Nat} {A0 : Option Addr} {c0 : Nat} {f0 : List Int} {f1 : Int} {f2 : Int} (h : W.heap[g]? = some (.cells #[.slice A0 f0.length c0, .int .i64 f1, .int .u64 f2] 46 (0, 0))) : W.cell? ⟨g, 0, none⟩ = some (.slice A0 f0.length c0) := (blk_cell h 0).trans rfl
theorem cellS46_1 {W : World} {g : Nat} {A0 : Option Addr} {c0 : Nat} {f0 : List Int} {f1 : Int} {f2 : Int} (h : W.heap[g]? = some (.cells #[.slice A0 f0.length c0, .int .i64 f1, .int .u64 f2] 46 (0, 0))) : W.cell? ⟨g, 1, none⟩ = some (.int .i64 f1) := (blk_cell h 1).trans rfl
theorem IsS46.set_1 {w0 W : World} {g : Nat} {f0 : List Int} {f1 : Int} {f2 : Int} (h : IsS46 w0 W g f0 f1 f2) (x : Int) : IsS46 w0 (W.setCell ⟨g, 1, none⟩ (.int .i64 x)) g f0 x f2 := by
 obtain ⟨A0, c0, hb, hg, Aa⟩ := h
 exact ⟨A0, c0, by simpa using blk_set hb 1 (.int .i64 x), hg, Aa⟩
theorem cellS46_2 {W : World} {g : Nat} {A0 : Option Addr} {c0 : Nat} {f0 : List Int} {f1 : Int} {f2 : Int} (h : W.heap[g]? = some (.cells #[.slice A0 f0.length c0, .int .i64 f1, .int .u64 f2] 46 (0, 0))) : W.cell? ⟨g, 2, none⟩ = some (.int .u64 f2) := (blk_cell h 2).trans rfl
theorem IsS46.set_2 {w0 W : World} {g : Nat} {f0 : List Int} {f1 : Int} {f2 : Int} (h : IsS46 w0 W g f0 f1 f2) (x : Int) : IsS46 w0 (W.setCell ⟨g, 2, none⟩ (.int .u64 x)) g f0 f1 x := by
 obtain ⟨A0, c0, hb, hg, Aa⟩ := h
 exact ⟨A0, c0, by simpa using blk_set hb 2 (.int .u64 x), hg, Aa⟩
def spec_l1Cur_next.f (s0_0 : List Int) (s0_1 : Int) (s0_2 : Int) : Option (Int × Int × Int) := if s0_1 < (s0_0.length : Int) then (if 0 ≤ s0_1 then (if (wrap64 (s0_1 + 1)) ≤ (s0_0.length : Int) then (some (wrap64 (rd s0_0 s0_1), wrap64 (s0_1 + 1), IntKind.u64.wrap ((IntKind.u64.wrap ((IntKind.u64.wrap (s0_2 * 6364136223846793005)) + (IntKind.u64.wrap (wrap64 (rd s0_0 s0_1))))) + 102323))) else (some (wrap64 (Go.bits .and .u64 ((IntKind.u64.wrap ((IntKind.u64.wrap ((IntKind.u64.wrap (s0_2 * 6364136223846793005)) + (IntKind.u64.wrap (wrap64 (rd s0_0 s0_1))))) + 102323)) / 1099511627776) 255), wrap64 (s0_1 + 1), IntKind.u64.wrap ((IntKind.u64.wrap ((IntKind.u64.wrap (s0_2 * 6364136223846793005)) + (IntKind.u64.wrap (wrap64 (rd s0_0 s0_1))))) + 102323)))) else (none)) else (if (wrap64 (s0_1 + 1)) ≤ (s0_0.length : Int) then (some (0, wrap64 (s0_1 + 1), IntKind.u64.wrap ((IntKind.u64.wrap ((IntKind.u64.wrap (s0_2 * 6364136223846793005)))) + 102323))) else (some (wrap64 (Go.bits .and .u64 ((IntKind.u64.wrap ((IntKind.u64.wrap ((IntKind.u64.wrap (s0_2 * 6364136223846793005)))) + 102323)) / 1099511627776) 255), wrap64 (s0_1 + 1), IntKind.u64.wrap ((IntKind.u64.wrap ((IntKind.u64.wrap (s0_2 * 6364136223846793005)))) + 102323))))
theorem spec_l1Cur_next.calls (g : Nat) (Ab : List Int) (Aa : Int) (Ad : Int) (r1 : Int) (r2 : Int) (r3 : Int) (w0 w : World) (hI : IsS46 w0 w g Ab Aa Ad) (hB : Below w0.heap.size w0 w) (h : spec_l1Cur_next.f Ab Aa Ad = some (r1, r2, r3)) :
  Calls Tryz.prog 46 #[.pointer (some ⟨g, 0, none⟩)] w fun e w' => e = .returned (.int .i64 r1) ∧ IsS46 w0 w' g Ab r2 r3 ∧ Below w0.heap.size w0 w' ∧ KeepBut w w' g none := by
 have HI0 := Aside0.mk hI; have HK := aM (KeepBut.refl w g none); have HL := Aside0.mk hB.size; clear hI; have Bc := Aside0.mk hB.size; have HB := Aside0.mk hB; clear hB; have H : (if Aa < (Ab.length : Int) then (if 0 ≤ Aa then (if (wrap64 (Aa + 1)) ≤ (Ab.length : Int) then (some (wrap64 (rd Ab Aa), wrap64 (Aa + 1), IntKind.u64.wrap ((IntKind.u64.wrap ((IntKind.u64.wrap (Ad * 6364136223846793005)) + (IntKind.u64.wrap (wrap64 (rd Ab Aa))))) + 102323))) else (some (wrap64 (Go.bits .and .u64 ((IntKind.u64.wrap ((IntKind.u64.wrap ((IntKind.u64.wrap (Ad * 6364136223846793005)) + (IntKind.u64.wrap (wrap64 (rd Ab Aa))))) + 102323)) / 1099511627776) 255), wrap64 (Aa + 1), IntKind.u64.wrap ((IntKind.u64.wrap ((IntKind.u64.wrap (Ad * 6364136223846793005)) + (IntKind.u64.wrap (wrap64 (rd Ab Aa))))) + 102323)))) else (none)) else (if (wrap64 (Aa + 1)) ≤ (Ab.length : Int) then (some (0, wrap64 (Aa + 1), IntKind.u64.wrap ((IntKind.u64.wrap ((IntKind.u64.wrap (Ad * 6364136223846793005)))) + 102323))) else (some (wrap64 (Go.bits .and .u64 ((IntKind.u64.wrap ((IntKind.u64.wrap ((IntKind.u64.wrap (Ad * 6364136223846793005)))) + 102323)) / 1099511627776) 255), wrap64 (Aa + 1), IntKind.u64.wrap ((IntKind.u64.wrap ((IntKind.u64.wrap (Ad * 6364136223846793005)))) + 102323))))) = some (r1, r2, r3) := h; clear h
 by_cases c2 : Aa < (Ab.length : Int)
 ·rw [if_pos c2] at H
  have c2b0 : decide (Aa < (Ab.length : Int)) = true := decide_eq_true c2; clear c2
  by_cases c3 : 0 ≤ Aa
  ·rw [if_pos c3] at H
   have c3b0 : decide (0 ≤ Aa) = true := decide_eq_true c3; clear c3
   by_cases c4 : (wrap64 (Aa + 1)) ≤ (Ab.length : Int)
   ·rw [if_pos c4] at H
    have c4b0 : decide ((wrap64 (Aa + 1)) ≤ (Ab.length : Int)) = true := decide_eq_true c4; clear c4
    simp only [Option.some.injEq, Prod.mk.injEq] at H
    obtain ⟨rfl, rfl, rfl⟩ := H; obtain ⟨ASz5_0, cSz5_0, HGz5, hgz5, HSz5_0⟩ := HI0.out; have Ag := cellS46_0 HGz5; have Ah := cellS46_1 HGz5; have Ai := cellS46_2 HGz5; have Aj := blk_frozen HGz5 1; have Ak := blk_frozen HGz5 2; clear HGz5 hgz5; have Ae : 0 ≤ (Aa : Int) := of_decide_eq_true Z6; have Af : Aa < (Ab.length : Int) := of_decide_eq_true Z6; obtain ⟨ad101, e101, Ac⟩ := Kd.at_int HSz5_0 Aa Ae Af; cases e101; replace Ac := pw_cell_below HB.out Ac; replace Ae := eq_true Ae; replace Af := eq_true Af
    go_enter Tryz.func46, Tryz.ntmps46
    go_wp2
    repeat (go_quiet (fail); try go_wp2)
    go_ret
    exact ⟨Z11, Z1, Z4, Z3⟩
   ·rw [if_neg c4] at H
    have c4b0 : decide ((wrap64 (Aa + 1)) ≤ (Ab.length : Int)) = false := decide_eq_false c4; clear c4
    simp only [Option.some.injEq, Prod.mk.injEq] at H
    obtain ⟨rfl, rfl, rfl⟩ := H; obtain ⟨ASz6_0, cSz6_0, HGz6, hgz6, HSz6_0⟩ := HI0.out; have Al := cellS46_0 HGz6; have Am := cellS46_1 HGz6; have An := cellS46_2 HGz6; have Ao := blk_frozen HGz6 1; have Ap := blk_frozen HGz6 2; clear HGz6 hgz6; have Ae : 0 ≤ (Aa : Int) := of_decide_eq_true Z6; have Af : Aa < (Ab.length : Int) := of_decide_eq_true Z6; obtain ⟨ad101, e101, Ac⟩ := Kd.at_int HSz6_0 Aa Ae Af; cases e101; replace Ac := pw_cell_below HB.out Ac; replace Ae := eq_true Ae; replace Af := eq_true Af
    go_enter Tryz.func46, Tryz.ntmps46
    go_wp2
    repeat (go_quiet (fail); try go_wp2)
    go_ret
    exact ⟨Z11, Z1, Z4, Z3⟩
  ·rw [if_neg c3] at H
   exact absurd H (by simp)
 ·rw [if_neg c2] at H
  have c2b0 : decide (Aa < (Ab.length : Int)) = false := decide_eq_false c2; clear c2
  by_cases c7 : (wrap64 (Aa + 1)) ≤ (Ab.length : Int)
  ·rw [if_pos c7] at H
   have c7b0 : decide ((wrap64 (Aa + 1)) ≤ (Ab.length : Int)) = true := decide_eq_true c7; clear c7
   simp only [Option.some.injEq, Prod.mk.injEq] at H
   obtain ⟨rfl, rfl, rfl⟩ := H; obtain ⟨ASz8_0, cSz8_0, HGz8, hgz8, HSz8_0⟩ := HI0.out; have Aq := cellS46_0 HGz8; have Ar := cellS46_1 HGz8; have Au := cellS46_2 HGz8; have Av := blk_frozen HGz8 1; have Aw := blk_frozen HGz8 2; clear HGz8 hgz8
   go_enter Tryz.func46, Tryz.ntmps46
   go_wp2
   repeat (go_quiet (fail); try go_wp2)
   go_ret
   exact ⟨Z11, Z1, Z4, Z3⟩
  ·rw [if_neg c7] at H
   have c7b0 : decide ((wrap64 (Aa + 1)) ≤ (Ab.length : Int)) = false := decide_eq_false c7; clear c7
   simp only [Option.some.injEq, Prod.mk.injEq] at H
   obtain ⟨rfl, rfl, rfl⟩ := H; obtain ⟨ASz9_0, cSz9_0, HGz9, hgz9, HSz9_0⟩ := HI0.out; have Ax := cellS46_0 HGz9; have Ay := cellS46_1 HGz9; have Az := cellS46_2 HGz9; have Ba := blk_frozen HGz9 1; have Bb := blk_frozen HGz9 2; clear HGz9 hgz9
   go_enter Tryz.func46, Tryz.ntmps46
   go_wp2
   repeat (go_quiet (fail); try go_wp2)
   go_ret
   exact ⟨Z11, Z1, Z4, Z3⟩
def spec_l1Cur_pick.f (s0_0 : List Int) (s0_1 : Int) (s0_2 : Int) (a1 : Int) : Option (Int × Int × Int) := if a1 ≤ 1 then (some (0, s0_1, s0_2)) else ((spec_l1Cur_next.f s0_0 s0_1 s0_2).bind fun bt102 => (if a1 > 200 then ((spec_l1Cur_next.f s0_0 bt102.2.1 bt102.2.2).bind fun bt105 => (if a1 = 0 then (none) else (some (Int.tmod (wrap64 ((wrap64 (bt102.1 * 256)) + bt105.1)) a1, bt105.2.1, bt105.2.2)))) else (if a1 = 0 then (none) else (some (Int.tmod bt102.1 a1, bt102.2.1, bt102.2.2)))))
theorem spec_l1Cur_pick.calls (g : Nat) (Ac : List Int) (Ad : Int) (Ae : Int) (a1 : Int) (r1 : Int) (r2 : Int) (r3 : Int) (w0 w : World) (hI : IsS46 w0 w g Ac Ad Ae) (hB : Below w0.heap.size w0 w) (h : spec_l1Cur_pick.f Ac Ad Ae a1 = some (r1, r2, r3)) :
  Calls Tryz.prog 19 #[.pointer (some ⟨g, 0, none⟩), .int .i64 a1] w fun e w' => e = .returned (.int .i64 r1) ∧ IsS46 w0 w' g Ac r2 r3 ∧ Below w0.heap.size w0 w' ∧ KeepBut w w' g none := by
 have HI0 := Aside0.mk hI; have HK := aM (KeepBut.refl w g none); have HL := Aside0.mk hB.size; clear hI; have Ao := Aside0.mk hB.size; have HB := Aside0.mk hB; clear hB; have H : (if a1 ≤ 1 then (some (0, Ad, Ae)) else ((spec_l1Cur_next.f Ac Ad Ae).bind fun Ab => (if a1 > 200 then ((spec_l1Cur_next.f Ac Ab.2.1 Ab.2.2).bind fun Aa => (if a1 = 0 then (none) else (some (Int.tmod (wrap64 ((wrap64 (Ab.1 * 256)) + Aa.1)) a1, Aa.2.1, Aa.2.2)))) else (if a1 = 0 then (none) else (some (Int.tmod Ab.1 a1, Ab.2.1, Ab.2.2)))))) = some (r1, r2, r3) := h; clear h
 by_cases c3 : a1 ≤ 1
 ·rw [if_pos c3] at H
  have c3b0 : decide (a1 ≤ 1) = true := decide_eq_true c3; clear c3
  simp only [Option.some.injEq, Prod.mk.injEq] at H
  obtain ⟨rfl, rfl, rfl⟩ := H
  go_enter Tryz.func19, Tryz.ntmps19
  go_wp2
  go_ret
  exact ⟨Z11, Z1, Z4, Z3⟩
 ·rw [if_neg c3] at H
  have c3b0 : decide (a1 ≤ 1) = false := decide_eq_false c3; clear c3; replace H := Option.bind_eq_some_iff.mp H; obtain ⟨⟨Af, Ag, Ah⟩, Am, H⟩ := H; replace H : (if a1 > 200 then ((spec_l1Cur_next.f Ac Ag Ah).bind fun Aa => (if a1 = 0 then (none) else (some (Int.tmod (wrap64 ((wrap64 (Af * 256)) + Aa.1)) a1, Aa.2.1, Aa.2.2)))) else (if a1 = 0 then (none) else (some (Int.tmod Af a1, Ag, Ah)))) = some (r1, r2, r3) := H; have A4 := Aside0.mk Am; clear Am
  by_cases c5 : a1 > 200
  ·rw [if_pos c5] at H
   have c5b0 : decide (200 < a1) = true := decide_eq_true c5; clear c5; replace H := Option.bind_eq_some_iff.mp H; obtain ⟨⟨Ai, Aj, Ak⟩, An, H⟩ := H; replace H : (if a1 = 0 then (none) else (some (Int.tmod (wrap64 ((wrap64 (Af * 256)) + Ai)) a1, Aj, Ak))) = some (r1, r2, r3) := H; have A6 := Aside0.mk An; clear An
   by_cases c7 : a1 = 0
   ·rw [if_pos c7] at H
    exact absurd H (by simp)
   ·rw [if_neg c7] at H
    have c7b0 : (a1 == 0) = false := beq_eq_false_iff_ne.mpr c7; have c7b1 : (a1 != 0) = true := bne_iff_ne.mpr c7
    simp only [Option.some.injEq, Prod.mk.injEq] at H
    obtain ⟨rfl, rfl, rfl⟩ := H
    go_enter Tryz.func19, Tryz.ntmps19
    go_wp2_with (first | ((with_reducible refine gate_callee (f := 46) rfl ?_); refine glE (some 9) Tryz.func46 #[.pointer (some ⟨g, 0, none⟩)] ?_; (with_reducible refine (spec_l1Cur_next.calls g Ac Ad Ae Af Ag Ah w0 _ ?side1 ?side2 A4.out).mono ?_); (case side1 => exact Z1); (case side2 => exact Z4); rintro e w8 ⟨rfl, hi, hb, hk⟩; refine ⟨_, rfl, ?_⟩; replace HK := aM (KeepBut.trans Z3 hk (.inl rfl)); replace HB := aM (hb); replace HI0 := aM (hi); (try clear hb); (try clear hk); (try clear hi)) | ((with_reducible refine gate_callee (f := 46) rfl ?_); refine glE (some 15) Tryz.func46 #[.pointer (some ⟨g, 0, none⟩)] ?_; (with_reducible refine (spec_l1Cur_next.calls g Ac Ag Ah Ai Aj Ak w0 _ ?side1 ?side2 A6.out).mono ?_); (case side1 => exact Z1); (case side2 => exact Z4); rintro e w9 ⟨rfl, hi, hb, hk⟩; refine ⟨_, rfl, ?_⟩; replace HK := aM (KeepBut.trans Z3 hk (.inl rfl)); replace HB := aM (hb); replace HI0 := aM (hi); (try clear hb); (try clear hk); (try clear hi)))
    go_ret
    exact ⟨Z11, Z1, Z4, Z3⟩
  ·rw [if_neg c5] at H
   have c5b0 : decide (200 < a1) = false := decide_eq_false c5; clear c5
   by_cases Al : a1 = 0
   ·rw [if_pos Al] at H
    exact absurd H (by simp)
   ·rw [if_neg Al] at H
    have c10b0 : (a1 == 0) = false := beq_eq_false_iff_ne.mpr Al; have c10b1 : (a1 != 0) = true := bne_iff_ne.mpr Al
    simp only [Option.some.injEq, Prod.mk.injEq] at H
    obtain ⟨rfl, rfl, rfl⟩ := H
    go_enter Tryz.func19, Tryz.ntmps19
    go_wp2_with (first | ((with_reducible refine gate_callee (f := 46) rfl ?_); refine glE (some 9) Tryz.func46 #[.pointer (some ⟨g, 0, none⟩)] ?_; (with_reducible refine (spec_l1Cur_next.calls g Ac Ad Ae Af Ag Ah w0 _ ?side1 ?side2 A4.out).mono ?_); (case side1 => exact Z1); (case side2 => exact Z4); rintro e Ap ⟨rfl, hi, hb, hk⟩; refine ⟨_, rfl, ?_⟩; replace HK := aM (KeepBut.trans Z3 hk (.inl rfl)); replace HB := aM (hb); replace HI0 := aM (hi); (try clear hb); (try clear hk); (try clear hi)))
    go_ret
    exact ⟨Z11, Z1, Z4, Z3⟩
def spec_l1Cur_among.f (s0_0 : List Int) (s0_1 : Int) (s0_2 : Int) (l1 : List Int) : Option (Int × Int × Int) := (spec_l1Cur_pick.f s0_0 s0_1 s0_2 (l1.length : Int)).bind fun bt108 => (if 0 ≤ bt108.1 then (if bt108.1 < (l1.length : Int) then (some (rd l1 bt108.1, bt108.2.1, bt108.2.2)) else (none)) else (none))
theorem spec_l1Cur_among.calls (g : Nat) (Ad : List Int) (Ae : Int) (Af : Int) (A1 : Option Addr) (c1 : Nat) (l1 : List Int) (r1 : Int) (r2 : Int) (r3 : Int) (w0 w : World) (hI : IsS46 w0 w g Ad Ae Af) (hB : Below w0.heap.size w0 w) (Al : Kd.C (Kd.int .i64) w A1 l1.length l1) (Am : l1.length ≤ c1) (Ak : ∀ ad, A1 = some ad → 0 < l1.length → ad.block ≠ g) (h : spec_l1Cur_among.f Ad Ae Af l1 = some (r1, r2, r3)) :
  Calls Tryz.prog 18 #[.pointer (some ⟨g, 0, none⟩), .slice A1 l1.length c1] w fun e w' => e = .returned (.int .i64 r1) ∧ IsS46 w0 w' g Ad r2 r3 ∧ Below w0.heap.size w0 w' ∧ KeepBut w w' g none := by
 have Ao := Aside0.mk Al; have Ap := Aside0.mk Am; clear Al Am; have HI0 := Aside0.mk hI; have HK := aM (KeepBut.refl w g none); have HL := Aside0.mk hB.size; clear hI; have Aq := Aside0.mk hB.size; have HB := Aside0.mk hB; clear hB; have H : ((spec_l1Cur_pick.f Ad Ae Af (l1.length : Int)).bind fun Ab => (if 0 ≤ Ab.1 then (if Ab.1 < (l1.length : Int) then (some (rd l1 Ab.1, Ab.2.1, Ab.2.2)) else (none)) else (none))) = some (r1, r2, r3) := h; clear h; replace H := Option.bind_eq_some_iff.mp H; obtain ⟨⟨Aa, Ai, Aj⟩, An, H⟩ := H; replace H : (if 0 ≤ Aa then (if Aa < (l1.length : Int) then (some (rd l1 Aa, Ai, Aj)) else (none)) else (none)) = some (r1, r2, r3) := H; have A3 := Aside0.mk An; clear An
 by_cases c4 : 0 ≤ Aa
 ·rw [if_pos c4] at H
  have c4b0 : decide (0 ≤ Aa) = true := decide_eq_true c4; clear c4
  by_cases c5 : Aa < (l1.length : Int)
  ·rw [if_pos c5] at H
   have c5b0 : decide (Aa < (l1.length : Int)) = true := decide_eq_true c5; clear c5
   simp only [Option.some.injEq, Prod.mk.injEq] at H
   obtain ⟨rfl, rfl, rfl⟩ := H
   go_enter Tryz.func18, Tryz.ntmps18
   go_wp2_with (first | ((with_reducible refine gate_callee (f := 19) rfl ?_); refine glE (some 9) Tryz.func19 #[.pointer (some ⟨g, 0, none⟩), .int .i64 (l1.length : Int)] ?_; (with_reducible refine (spec_l1Cur_pick.calls g Ad Ae Af (l1.length : Int) Aa Ai Aj w0 _ ?side1 ?side2 A3.out).mono ?_); (case side1 => exact Z1); (case side2 => exact Z4); rintro e w6 ⟨rfl, hi, hb, hk⟩; refine ⟨_, rfl, ?_⟩; replace HK := aM (KeepBut.trans Z3 hk (.inl rfl)); replace HB := aM (hb); replace HI0 := aM (hi); (try clear hb); (try clear hk); (try clear hi); have Ag : 0 ≤ (Aa : Int) := of_decide_eq_true Z6; have Ah : Aa < (l1.length : Int) := of_decide_eq_true Z6; obtain ⟨ad111, e111, Ac⟩ := Kd.at_int Ao.out Aa Ag Ah; cases e111; replace Ac := keep_cell HK.out Ac (by first | (rw [add_block]; exact Ak _ rfl (by omega)) | exact Ak _ rfl (by omega) | exact Ak ad111 rfl (by omega)); replace Ag := eq_true Ag; replace Ah := eq_true Ah))
   go_ret
   exact ⟨Z11, Z1, Z4, Z3⟩
  ·rw [if_neg c5] at H
   exact absurd H (by simp)
 ·rw [if_neg c4] at H
  exact absurd H (by simp)
def spec_l1Cur_one.f (s0_0 : List Int) (s0_1 : Int) (s0_2 : Int) (a1 : Int) : Option (Bool × Int × Int) := (spec_l1Cur_pick.f s0_0 s0_1 s0_2 a1).bind fun bt112 => (some ((bt112.1 == 0), bt112.2.1, bt112.2.2))
theorem spec_l1Cur_one.calls (g : Nat) (Aa : List Int) (Ac : Int) (Ad : Int) (a1 : Int) (r1 : Bool) (r2 : Int) (r3 : Int) (w0 w : World) (hI : IsS46 w0 w g Aa Ac Ad) (hB : Below w0.heap.size w0 w) (h : spec_l1Cur_one.f Aa Ac Ad a1 = some (r1, r2, r3)) :
  Calls Tryz.prog 44 #[.pointer (some ⟨g, 0, none⟩), .int .i64 a1] w fun e w' => e = .returned (.bool r1) ∧ IsS46 w0 w' g Aa r2 r3 ∧ Below w0.heap.size w0 w' ∧ KeepBut w w' g none := by
 have HI0 := Aside0.mk hI; have HK := aM (KeepBut.refl w g none); have HL := Aside0.mk hB.size; clear hI; have Ai := Aside0.mk hB.size; have HB := Aside0.mk hB; clear hB; have H : ((spec_l1Cur_pick.f Aa Ac Ad a1).bind fun Ab => (some ((Ab.1 == 0), Ab.2.1, Ab.2.2))) = some (r1, r2, r3) := h; clear h; replace H := Option.bind_eq_some_iff.mp H; obtain ⟨⟨Ae, Af, Ag⟩, Ah, H⟩ := H; replace H : (some ((Ae == 0), Af, Ag)) = some (r1, r2, r3) := H; have A3 := Aside0.mk Ah; clear Ah
 simp only [Option.some.injEq, Prod.mk.injEq] at H
 obtain ⟨rfl, rfl, rfl⟩ := H
 go_enter Tryz.func44, Tryz.ntmps44
 go_wp2_with (first | ((with_reducible refine gate_callee (f := 19) rfl ?_); refine glE (some 7) Tryz.func19 #[.pointer (some ⟨g, 0, none⟩), .int .i64 a1] ?_; (with_reducible refine (spec_l1Cur_pick.calls g Aa Ac Ad a1 Ae Af Ag w0 _ ?side1 ?side2 A3.out).mono ?_); (case side1 => exact Z1); (case side2 => exact Z4); rintro e w4 ⟨rfl, hi, hb, hk⟩; refine ⟨_, rfl, ?_⟩; replace HK := aM (KeepBut.trans Z3 hk (.inl rfl)); replace HB := aM (hb); replace HI0 := aM (hi); (try clear hb); (try clear hk); (try clear hi)))
 go_ret
 exact ⟨Z11, Z1, Z4, Z3⟩
def spec_l1Cur_of.f (s0_0 : List Int) (s0_1 : Int) (s0_2 : Int) (l1 : List ByteArray) : Option (ByteArray × Int × Int) := (spec_l1Cur_pick.f s0_0 s0_1 s0_2 (l1.length : Int)).bind fun bt115 => (if 0 ≤ bt115.1 then (if bt115.1 < (l1.length : Int) then (some (rdOf ByteArray.empty l1 bt115.1, bt115.2.1, bt115.2.2)) else (none)) else (none))
theorem spec_l1Cur_of.calls (g : Nat) (Ad : List Int) (Ae : Int) (Af : Int) (A1 : Option Addr) (c1 : Nat) (l1 : List ByteArray) (r1 : ByteArray) (r2 : Int) (r3 : Int) (w0 w : World) (hI : IsS46 w0 w g Ad Ae Af) (hB : Below w0.heap.size w0 w) (Al : Kd.C Kd.string w A1 l1.length l1) (Am : l1.length ≤ c1) (Ak : ∀ ad, A1 = some ad → 0 < l1.length → ad.block ≠ g) (h : spec_l1Cur_of.f Ad Ae Af l1 = some (r1, r2, r3)) :
  Calls Tryz.prog 45 #[.pointer (some ⟨g, 0, none⟩), .slice A1 l1.length c1] w fun e w' => e = .returned (.string r1) ∧ IsS46 w0 w' g Ad r2 r3 ∧ Below w0.heap.size w0 w' ∧ KeepBut w w' g none := by
 have Ao := Aside0.mk Al; have Ap := Aside0.mk Am; clear Al Am; have HI0 := Aside0.mk hI; have HK := aM (KeepBut.refl w g none); have HL := Aside0.mk hB.size; clear hI; have Aq := Aside0.mk hB.size; have HB := Aside0.mk hB; clear hB; have H : ((spec_l1Cur_pick.f Ad Ae Af (l1.length : Int)).bind fun Ab => (if 0 ≤ Ab.1 then (if Ab.1 < (l1.length : Int) then (some (rdOf ByteArray.empty l1 Ab.1, Ab.2.1, Ab.2.2)) else (none)) else (none))) = some (r1, r2, r3) := h; clear h; replace H := Option.bind_eq_some_iff.mp H; obtain ⟨⟨Aa, Ai, Aj⟩, An, H⟩ := H; replace H : (if 0 ≤ Aa then (if Aa < (l1.length : Int) then (some (rdOf ByteArray.empty l1 Aa, Ai, Aj)) else (none)) else (none)) = some (r1, r2, r3) := H; have A3 := Aside0.mk An; clear An
 by_cases c4 : 0 ≤ Aa
 ·rw [if_pos c4] at H
  have c4b0 : decide (0 ≤ Aa) = true := decide_eq_true c4; clear c4
  by_cases c5 : Aa < (l1.length : Int)
  ·rw [if_pos c5] at H
   have c5b0 : decide (Aa < (l1.length : Int)) = true := decide_eq_true c5; clear c5
   simp only [Option.some.injEq, Prod.mk.injEq] at H
   obtain ⟨rfl, rfl, rfl⟩ := H
   go_enter Tryz.func45, Tryz.ntmps45
   go_wp2_with (first | ((with_reducible refine gate_callee (f := 19) rfl ?_); refine glE (some 9) Tryz.func19 #[.pointer (some ⟨g, 0, none⟩), .int .i64 (l1.length : Int)] ?_; (with_reducible refine (spec_l1Cur_pick.calls g Ad Ae Af (l1.length : Int) Aa Ai Aj w0 _ ?side1 ?side2 A3.out).mono ?_); (case side1 => exact Z1); (case side2 => exact Z4); rintro e w6 ⟨rfl, hi, hb, hk⟩; refine ⟨_, rfl, ?_⟩; replace HK := aM (KeepBut.trans Z3 hk (.inl rfl)); replace HB := aM (hb); replace HI0 := aM (hi); (try clear hb); (try clear hk); (try clear hi); have Ag : 0 ≤ (Aa : Int) := of_decide_eq_true Z6; have Ah : Aa < (l1.length : Int) := of_decide_eq_true Z6; obtain ⟨ad118, e118, Ac⟩ := Kd.at_string Ao.out Aa Ag Ah; cases e118; replace Ac := keep_cell HK.out Ac (by first | (rw [add_block]; exact Ak _ rfl (by omega)) | exact Ak _ rfl (by omega) | exact Ak ad118 rfl (by omega)); replace Ag := eq_true Ag; replace Ah := eq_true Ah))
   go_ret
   exact ⟨Z11, Z1, Z4, Z3⟩
  ·rw [if_neg c5] at H
   exact absurd H (by simp)
 ·rw [if_neg c4] at H
  exact absurd H (by simp)
mutual
def spec_l1Cur_recipe.l0 : Nat → List (S53) → List ByteArray → Int → List Int → Int → Int → Option ((List (S53)) × Int × Int)
 | 0, _, _, _, _, _, _ => none
 | k + 1, x3, x4, x5, x1000, x1001, x1002 => if x5 < (x4.length : Int) then ((spec_l1Cur_one.f x1000 x1001 x1002 2).bind fun bt125 => (if bt125.1 = true then (if 0 ≤ x5 then ((spec_l1Cur_among.f x1000 bt125.2.1 bt125.2.2 (([1, 50, 333, 1000] : List Int))).bind fun bt132 => (if x3.length < 5864062014805 then (spec_l1Cur_recipe.l0 k (x3 ++ [(⟨rdOf ByteArray.empty x4 x5, bt132.1⟩ : S53)]) x4 (wrap64 (x5 + 1)) x1000 bt132.2.1 bt132.2.2) else (none))) else (none)) else (spec_l1Cur_recipe.l0 k x3 x4 (wrap64 (x5 + 1)) x1000 bt125.2.1 bt125.2.2))) else (if (x3.length : Int) = 0 then ((spec_l1Cur_one.f x1000 x1001 x1002 6).bind fun bt138 => (spec_l1Cur_recipe.j1 k x3 (!bt138.1) x1000 bt138.2.1 bt138.2.2)) else (spec_l1Cur_recipe.j1 k x3 false x1000 x1001 x1002))
def spec_l1Cur_recipe.j1 : Nat → List (S53) → Bool → List Int → Int → Int → Option ((List (S53)) × Int × Int)
 | 0, _, _, _, _, _ => none
 | k + 1, x3, x37, x1000, x1001, x1002 => if x37 = true then (if x3.length < 5864062014805 then (spec_l1Cur_recipe.j2 k (x3 ++ [(⟨(⟨#[97, 108, 117, 109]⟩ : ByteArray), 100⟩ : S53)]) x1000 x1001 x1002) else (none)) else (spec_l1Cur_recipe.j2 k x3 x1000 x1001 x1002)
def spec_l1Cur_recipe.j2 : Nat → List (S53) → List Int → Int → Int → Option ((List (S53)) × Int × Int)
 | 0, _, _, _, _ => none
 | k + 1, x3, x1000, x1001, x1002 => if (x3.length : Int) = 0 then (some (x3, x1001, x1002)) else ((spec_l1Cur_pick.f x1000 x1001 x1002 (x3.length : Int)).bind fun bt144 => (if 0 ≤ bt144.1 then (if bt144.1 < (x3.length : Int) then ((spec_l1Cur_pick.f x1000 bt144.2.1 bt144.2.2 40).bind fun bt149 => (if bt149.1 = 0 then ((spec_l1Cur_of.f x1000 bt149.2.1 bt149.2.2 (([(⟨#[]⟩ : ByteArray), (⟨#[65]⟩ : ByteArray), (⟨#[122, 105, 110, 99]⟩ : ByteArray)] : List ByteArray))).bind fun bt155 => (some ((x3.set (bt144.1 : Int).toNat (⟨bt155.1, (rd_T53 x3 bt144.1).f1⟩ : S53)), bt155.2.1, bt155.2.2))) else (if bt149.1 = 1 then ((spec_l1Cur_among.f x1000 bt149.2.1 bt149.2.2 (([0, 1001] : List Int))).bind fun bt162 => (some ((x3.set (bt144.1 : Int).toNat (⟨(rd_T53 x3 bt144.1).f0, bt162.1⟩ : S53)), bt162.2.1, bt162.2.2))) else (if bt149.1 = 2 then (spec_l1Cur_recipe.l1 k (([] : List (S53))) 0 x1000 bt149.2.1 bt149.2.2) else (some ((x3.set (bt144.1 : Int).toNat (⟨(rd_T53 x3 bt144.1).f0, (rd_T53 x3 bt144.1).f1⟩ : S53)), bt149.2.1, bt149.2.2)))))) else (none)) else (none)))
def spec_l1Cur_recipe.l1 : Nat → List (S53) → Int → List Int → Int → Int → Option ((List (S53)) × Int × Int)
 | 0, _, _, _, _, _ => none
 | k + 1, x3, x8, x1000, x1001, x1002 => (spec_l1Cur_pick.f x1000 x1001 x1002 2).bind fun bt169 => (if x8 < (wrap64 (6 + bt169.1)) then (if x3.length < 5864062014805 then (spec_l1Cur_recipe.l1 k (x3 ++ [(⟨strOfNums (([(wrap64 (97 + x8)) % 256] : List Int)), 5⟩ : S53)]) (wrap64 (x8 + 1)) x1000 bt169.2.1 bt169.2.2) else (none)) else (some (x3, bt169.2.1, bt169.2.2)))
end
def spec_l1Cur_recipe.f (k : Nat) (s0_0 : List Int) (s0_1 : Int) (s0_2 : Int) : Option ((List (S53)) × Int × Int) := spec_l1Cur_recipe.l0 k (([] : List (S53))) (([(⟨#[97, 108, 117, 109]⟩ : ByteArray), (⟨#[105, 110, 100, 105, 103, 111]⟩ : ByteArray), (⟨#[108, 105, 109, 101]⟩ : ByteArray), (⟨#[109, 97, 100, 100, 101, 114]⟩ : ByteArray), (⟨#[119, 101, 108, 100]⟩ : ByteArray)] : List ByteArray)) 0 s0_0 s0_1 s0_2
def spec_l1Cur_recipe.T7 : Bool × List (List Nat × List Nat) := (true, [([], []), ([], []), ([], []), ([1, 2], [1, 2]), ([3], [3]), ([], []), ([], []), ([5, 6], [5, 6]), ([4, 7], [4, 7]), ([8], [8]), ([0, 9, 7], [0, 9]), ([10, 10, 0, 1, 2, 3, 4, 5, 6, 7, 8, 9, 10], [0, 10])])
def spec_l1Cur_recipe.B7 : List Nat := [0, 0, 0, 6, 14, 0, 0, 96, 254, 510, 1023, 2047]
theorem spec_l1Cur_recipe.tab7 : rtab .any (opsOf Tryz.f17 7) = spec_l1Cur_recipe.T7 := by kernel_rfl
theorem spec_l1Cur_recipe.bits7 : waitsOk spec_l1Cur_recipe.T7.2 spec_l1Cur_recipe.B7 = true := by kernel_rfl
theorem spec_l1Cur_recipe.calls (k : Nat) (g : Nat) (Ag : List Int) (Ck : Int) (Cl : Int) (r1 : List (S53)) (r2 : Int) (r3 : Int) (w0 w : World) (hI : IsS46 w0 w g Ag Ck Cl) (hB : Below w0.heap.size w0 w) (h : spec_l1Cur_recipe.f k Ag Ck Cl = some (r1, r2, r3)) :
  Calls Tryz.prog 17 #[.pointer (some ⟨g, 0, none⟩)] w fun e w' => ∃ v0_ : Value, e = .returned (v0_) ∧ Kd.R k53 53 w' w.heap.size (fun _ => True) v0_ r1 ∧ IsS46 w0 w' g Ag r2 r3 ∧ Below w0.heap.size w0 w' ∧ KeepBut w w' g none := by
 have hu53 := Tryz.underlying53; have HI0 := Aside0.mk hI; have HK := aM (KeepBut.refl w g none); have HL := Aside0.mk hB.size; clear hI; have Gy := Aside0.mk hB.size; have HB := Aside0.mk hB; clear hB; have H : (spec_l1Cur_recipe.l0 k (([] : List (S53))) (([(⟨#[97, 108, 117, 109]⟩ : ByteArray), (⟨#[105, 110, 100, 105, 103, 111]⟩ : ByteArray), (⟨#[108, 105, 109, 101]⟩ : ByteArray), (⟨#[109, 97, 100, 100, 101, 114]⟩ : ByteArray), (⟨#[119, 101, 108, 100]⟩ : ByteArray)] : List ByteArray)) 0 Ag Ck Cl) = some (r1, r2, r3) := h; clear h; obtain ⟨Ep, Bz⟩ : ∃ y_ : List (S53), y_ = (([] : List (S53))) := ⟨_, rfl⟩
 replace H : (spec_l1Cur_recipe.l0 k Ep (([(⟨#[97, 108, 117, 109]⟩ : ByteArray), (⟨#[105, 110, 100, 105, 103, 111]⟩ : ByteArray), (⟨#[108, 105, 109, 101]⟩ : ByteArray), (⟨#[109, 97, 100, 100, 101, 114]⟩ : ByteArray), (⟨#[119, 101, 108, 100]⟩ : ByteArray)] : List ByteArray)) 0 Ag Ck Cl) = some (r1, r2, r3) := by first | (rw [Bz]; with_reducible exact H) | (have H2_ := (Option.bind_some _ _).symm.trans H; rw [Bz]; with_reducible exact H2_) | (have H2_ := (Option.bind_some _ _).symm.trans H; with_reducible exact H2_) | with_reducible exact H | (rw [Bz]; exact H) | exact H
 have Ef := Aside0.mk Bz; clear Bz; obtain ⟨Ar, B0⟩ : ∃ y_ : List ByteArray, y_ = (([(⟨#[97, 108, 117, 109]⟩ : ByteArray), (⟨#[105, 110, 100, 105, 103, 111]⟩ : ByteArray), (⟨#[108, 105, 109, 101]⟩ : ByteArray), (⟨#[109, 97, 100, 100, 101, 114]⟩ : ByteArray), (⟨#[119, 101, 108, 100]⟩ : ByteArray)] : List ByteArray)) := ⟨_, rfl⟩
 replace H : (spec_l1Cur_recipe.l0 k Ep Ar 0 Ag Ck Cl) = some (r1, r2, r3) := by first | (rw [B0]; with_reducible exact H) | (have H2_ := (Option.bind_some _ _).symm.trans H; rw [B0]; with_reducible exact H2_) | (have H2_ := (Option.bind_some _ _).symm.trans H; with_reducible exact H2_) | with_reducible exact H | (rw [B0]; exact H) | exact H
 have Eg := Aside0.mk B0; clear B0; have H' := Aside0.mk H; clear H
 go_enter Tryz.func17, Tryz.ntmps17
 go_wp2_with (first | ((with_reducible refine gate_dst (N := 9) rfl ?_); refine Kd.R_lit k53 _ 53 ?hg (N := 9) ?hd (xs := ([] : List (S53))) (inner := []) (ok := fun _ => True) (okp := fun _ => True) ?hr ?hp (fun _ hk => hk) trivial (Below.refl _ _) (Nat.le_refl _) (by simp) ?_; (case hd => rfl); (case hg => rfl); (case hr => first | (go_simp; done) | (go_simp; rfl)); (case hp => exact (Reps.none _ _)); intro Ii w2 Fd hb hg_ hnew_; clear hg_ hnew_; (first | rw [← Ef.out] at Fd | (simp only [Int.reduceToNat] at Fd; rw [← Ef.out] at Fd)); have Cr := aM (Kd.R_lower Fd (keep_size (w := w) (g := g) (row := none) Z3)); replace HK := aM (KeepBut.trans Z3 (KeepBut.of_below hb g none) (.inl rfl)); replace HB := aM (below_step Z4 hb); replace HI0 := aM (IsS46.below Z1 hb); clear hb Fd) | ((with_reducible refine gate_dst (N := 10) rfl ?_); refine Kd.R_lit Kd.string _ 9 ?hg (N := 10) ?hd (xs := ([(⟨#[97, 108, 117, 109]⟩ : ByteArray), (⟨#[105, 110, 100, 105, 103, 111]⟩ : ByteArray), (⟨#[108, 105, 109, 101]⟩ : ByteArray), (⟨#[109, 97, 100, 100, 101, 114]⟩ : ByteArray), (⟨#[119, 101, 108, 100]⟩ : ByteArray)] : List ByteArray)) (inner := [.string (⟨#[97, 108, 117, 109]⟩ : ByteArray), .string (⟨#[105, 110, 100, 105, 103, 111]⟩ : ByteArray), .string (⟨#[108, 105, 109, 101]⟩ : ByteArray), .string (⟨#[109, 97, 100, 100, 101, 114]⟩ : ByteArray), .string (⟨#[119, 101, 108, 100]⟩ : ByteArray)]) (ok := fun _ => True) (okp := fun _ => True) ?hr ?hp (fun _ hk => hk) trivial (Below.refl _ _) (Nat.le_refl _) (by simp) ?_; (case hd => rfl); (case hg => rfl); (case hr => first | (go_simp; done) | (go_simp; rfl)); (case hp => exact (Reps.one (show Kd.M Kd.string _ _ _ (⟨#[97, 108, 117, 109]⟩ : ByteArray) [.string (⟨#[97, 108, 117, 109]⟩ : ByteArray)] from rfl) (Reps.one (show Kd.M Kd.string _ _ _ (⟨#[105, 110, 100, 105, 103, 111]⟩ : ByteArray) [.string (⟨#[105, 110, 100, 105, 103, 111]⟩ : ByteArray)] from rfl) (Reps.one (show Kd.M Kd.string _ _ _ (⟨#[108, 105, 109, 101]⟩ : ByteArray) [.string (⟨#[108, 105, 109, 101]⟩ : ByteArray)] from rfl) (Reps.one (show Kd.M Kd.string _ _ _ (⟨#[109, 97, 100, 100, 101, 114]⟩ : ByteArray) [.string (⟨#[109, 97, 100, 100, 101, 114]⟩ : ByteArray)] from rfl) (Reps.one (show Kd.M Kd.string _ _ _ (⟨#[119, 101, 108, 100]⟩ : ByteArray) [.string (⟨#[119, 101, 108, 100]⟩ : ByteArray)] from rfl) (Reps.none _ _))))))); intro G8 w4 Fe hb hg_ hnew_; clear hg_ hnew_; (first | rw [← Eg.out] at Fe | (simp only [Int.reduceToNat] at Fe; rw [← Eg.out] at Fe)); replace Cr := roB Cr hb; have Ff := aM (Kd.R_lower Fe (keep_size (w := w) (g := g) (row := none) Z3)); replace HK := aM (KeepBut.trans Z3 (KeepBut.of_below hb g none) (.inl rfl)); replace HB := aM (below_step Z4 hb); replace HI0 := aM (IsS46.below Z1 hb); clear hb Fe))
 go_loopg [3, 5] k (fun kq v3 v5 w' => ∃ (Ao : List (S53)) (Ap : Int) (Am : Int) (An : Int), v5 = .int .i64 Ap ∧ Aside0 (spec_l1Cur_recipe.l0 kq Ao Ar Ap Ag Am An = some (r1, r2, r3)) ∧ Aside0 (kq ≤ k) ∧ Aside0 (Kd.R k53 53 w' w.heap.size (fun _ => True) v3 Ao) ∧ Aside0 (Kd.R Kd.string 9 w' w.heap.size (fun _ => True) G8 Ar) ∧ Aside0 (IsS46 w0 w' g Ag Am An) ∧ Aside0 (KeepBut w w' g none) ∧ Aside0 (Below w0.heap.size w0 w'))
 case atStart => exact ⟨(Ep), (0), (Ck), (Cl), Z12, H', ⟨Nat.le_refl _⟩, ⟨by (with_reducible repeat (first | apply Kd.R_alloc | apply Kd.R_drewN | apply Kd.R_drew)); exact Cr.out⟩, ⟨by (with_reducible repeat (first | apply Kd.R_alloc | apply Kd.R_drewN | apply Kd.R_drew)); exact Ff.out⟩, ⟨Z1⟩, ⟨Z3⟩, ⟨Z4⟩⟩
 case round =>
  clear H'; (try clear c1); (try clear p2); obtain ⟨Ao, Ap, Am, An, rfl, HA, HK1, Ac, Aq, HI0, HK, HB⟩ := hrel; cases gk with
  | zero => exact absurd HA.out (by simp [spec_l1Cur_recipe.l0])
  | succ k1 =>
   have H := HA.out; clear HA
   simp only [spec_l1Cur_recipe.l0] at H
   by_cases c6 : Ap < (Ar.length : Int)
   ·rw [if_pos c6] at H
    have c6b0 : decide (Ap < (Ar.length : Int)) = true := decide_eq_true c6; clear c6; replace H := Option.bind_eq_some_iff.mp H; obtain ⟨⟨Fg, Bq, Br⟩, H2, H⟩ := H; replace H : (if Fg = true then (if 0 ≤ Ap then ((spec_l1Cur_among.f Ag Bq Br (([1, 50, 333, 1000] : List Int))).bind fun Bd => (if Ao.length < 5864062014805 then (spec_l1Cur_recipe.l0 k1 (Ao ++ [(⟨rdOf ByteArray.empty Ar Ap, Bd.1⟩ : S53)]) Ar (wrap64 (Ap + 1)) Ag Bd.2.1 Bd.2.2) else (none))) else (none)) else (spec_l1Cur_recipe.l0 k1 Ao Ar (wrap64 (Ap + 1)) Ag Bq Br)) = some (r1, r2, r3) := H; have A7 := Aside0.mk H2; clear H2
    by_cases c8 : Fg = true
    ·subst c8
     have H1 : (if 0 ≤ Ap then ((spec_l1Cur_among.f Ag Bq Br (([1, 50, 333, 1000] : List Int))).bind fun Bd => (if Ao.length < 5864062014805 then (spec_l1Cur_recipe.l0 k1 (Ao ++ [(⟨rdOf ByteArray.empty Ar Ap, Bd.1⟩ : S53)]) Ar (wrap64 (Ap + 1)) Ag Bd.2.1 Bd.2.2) else (none))) else (none)) = some (r1, r2, r3) := by rw [if_pos rfl] at H; exact H
     clear H; have H := H1; clear H1
     by_cases c9 : 0 ≤ Ap
     ·rw [if_pos c9] at H
      have c9b0 : decide (0 ≤ Ap) = true := decide_eq_true c9; clear c9; obtain ⟨Er, B1⟩ : ∃ y_ : List Int, y_ = (([1, 50, 333, 1000] : List Int)) := ⟨_, rfl⟩
      replace H : ((spec_l1Cur_among.f Ag Bq Br Er).bind fun Bd => (if Ao.length < 5864062014805 then (spec_l1Cur_recipe.l0 k1 (Ao ++ [(⟨rdOf ByteArray.empty Ar Ap, Bd.1⟩ : S53)]) Ar (wrap64 (Ap + 1)) Ag Bd.2.1 Bd.2.2) else (none))) = some (r1, r2, r3) := by first | (rw [B1]; with_reducible exact H) | (have H2_ := (Option.bind_some _ _).symm.trans H; rw [B1]; with_reducible exact H2_) | (have H2_ := (Option.bind_some _ _).symm.trans H; with_reducible exact H2_) | with_reducible exact H | (rw [B1]; exact H) | exact H
      have Eh := Aside0.mk B1; clear B1; replace H := Option.bind_eq_some_iff.mp H; obtain ⟨⟨Cm, C7, C8⟩, Fh, H⟩ := H; replace H : (if Ao.length < 5864062014805 then (spec_l1Cur_recipe.l0 k1 (Ao ++ [(⟨rdOf ByteArray.empty Ar Ap, Cm⟩ : S53)]) Ar (wrap64 (Ap + 1)) Ag C7 C8) else (none)) = some (r1, r2, r3) := H; have Ij := Aside0.mk Fh; clear Fh
      by_cases Es : Ao.length < 5864062014805
      ·rw [if_pos Es] at H
       have LMc11 := Aside0.mk Es; clear Es; obtain ⟨Fi, B2⟩ : ∃ y_ : List (S53), y_ = (Ao ++ [(⟨rdOf ByteArray.empty Ar Ap, Cm⟩ : S53)]) := ⟨_, rfl⟩
       replace H : (spec_l1Cur_recipe.l0 k1 Fi Ar (wrap64 (Ap + 1)) Ag C7 C8) = some (r1, r2, r3) := by first | (rw [B2]; with_reducible exact H) | (have H2_ := (Option.bind_some _ _).symm.trans H; rw [B2]; with_reducible exact H2_) | (have H2_ := (Option.bind_some _ _).symm.trans H; with_reducible exact H2_) | with_reducible exact H | (rw [B2]; exact H) | exact H
       have Fj := Aside0.mk B2; clear B2; have H' := Aside0.mk H; clear H; obtain ⟨Ik, Il, G9⟩ := Kd.R_slice Aq.out; subst G9
       try go_wp2_with (first | ((with_reducible refine gate_callee (f := 44) rfl ?_); refine glE (some 18) Tryz.func44 #[.pointer (some ⟨g, 0, none⟩), .int .i64 2] ?_; (with_reducible refine (spec_l1Cur_one.calls g Ag Am An 2 true Bq Br w0 _ ?side1 ?side2 A7.out).mono ?_); (case side1 => exact Z1); (case side2 => exact Z4); rintro e Im ⟨rfl, hi, hb, hk⟩; refine ⟨_, rfl, ?_⟩; replace Ac := aM (Kd.R_mono (Kd.R_keep (IsS46.apart (show IsS46 w0 _ g Ag Am An from Z1) Z18 (by decide)) hk (fun _ h => h.2)) (fun _ h => h.1)); replace Aq := aM (Kd.R_mono (Kd.R_keep (IsS46.apart (show IsS46 w0 _ g Ag Am An from Z1) Z27 (by decide)) hk (fun _ h => h.2)) (fun _ h => h.1)); replace HK := aM (KeepBut.trans Z3 hk (.inl rfl)); replace HB := aM (hb); replace HI0 := aM (hi); (try clear hb); (try clear hk); (try clear hi)))
       replace Ac := aM (Kd.R_drew Ac.out); replace Aq := aM (Kd.R_drew Aq.out); replace HI0 := aM (IsS46.drew HI0.out); replace HK := aM (keep_drew HK.out); replace HB := aM (below_drew1 HB.out); have Cn : 0 ≤ (Ap : Int) := of_decide_eq_true Z6; have Co : Ap < (Ar.length : Int) := of_decide_eq_true Z6; obtain ⟨ad128, e128, Bn⟩ := Kd.at_string (Kd.R_reads' Aq.out).2.2 Ap Cn Co; cases e128; replace Cn := eq_true Cn; replace Co := eq_true Co; refine start_ (n := 12) (S := fun w' => w'.cell? (ad128.add (Ap).toNat) = some (.string (rdOf ByteArray.empty Ar Ap))) (ds := [9, 10]) #[false, false, false, false, false, false, false, false, false, false, false, false] Z21 rfl rfl (Bn) (fun hHeld => ?_); refine with_tabW spec_l1Cur_recipe.tab7 spec_l1Cur_recipe.bits7 (fun HT_ HW_ => ?_)
       generalize Im.drew = Jw at Ac Aq HI0 HK HB Bn hHeld ⊢
       refine puR 0 19 #[true, false, false, false, false, false, false, false, false, false, false, false] HT_ rfl rfl ?_; refine puR 1 20 #[true, true, false, false, false, false, false, false, false, false, false, false] HT_ rfl rfl ?_; refine puR 2 21 #[true, true, true, false, false, false, false, false, false, false, false, false] HT_ rfl rfl ?_; refine puR 3 22 #[true, true, true, true, false, false, false, false, false, false, false, false] HT_ rfl rfl ?_; refine puR 5 24 #[true, true, true, true, false, true, false, false, false, false, false, false] HT_ rfl rfl ?_; refine take_ (i := 4) (N := some 23) (v := ?_) (a' := ?_) #[true, true, true, true, true, true, false, false, false, false, false, false] rfl rfl (take_ofW HT_.out HW_.out Z21) (fun _ _ _ h => h) (Or.inl ⟨by rfl, ?_⟩) hHeld ?_ ?_
       rotate_left
       ·intro w' s0
        go_simp
        with_reducible rfl
       rotate_left
       ·exact Z5
       refine one_ (i := 6) (N := some 25) #[true, true, true, true, true, true, true, false, false, false, false, false] rfl rfl (one_of HT_.out Z21) (by decide) (fun K hK => ?_); refine Kd.R_lit_step (Kd.int .i64) _ 3 ?hg (N := 25) ?hd (xs := ([1, 50, 333, 1000] : List Int)) (inner := [.int .i64 1, .int .i64 50, .int .i64 333, .int .i64 1000]) (ok := fun _ => True) (okp := fun _ => True) ?hr ?hp (fun _ hk => hk) trivial (Below.refl _ _) (Nat.le_refl _) (by simp) ?_; (case hd => rfl); (case hg => rfl); (case hr => first | (go_simp; done) | (go_simp; rfl)); (case hp => exact (Reps.one (show Kd.M (Kd.int .i64) _ _ _ 1 [.int .i64 1] from rfl) (Reps.one (show Kd.M (Kd.int .i64) _ _ _ 50 [.int .i64 50] from rfl) (Reps.one (show Kd.M (Kd.int .i64) _ _ _ 333 [.int .i64 333] from rfl) (Reps.one (show Kd.M (Kd.int .i64) _ _ _ 1000 [.int .i64 1000] from rfl) (Reps.none _ _)))))); intro Io Jx Cs hb hg_ hnew_; have HS0_ := (hb.cell (World.block_lt_of_cell? _ _ (hHeld))).trans (hHeld); clear hg_ hnew_
       (first | rw [← Eh.out] at Cs | (simp only [Int.reduceToNat] at Cs; rw [← Eh.out] at Cs))
       replace Ac := roB Ac hb; replace Aq := roB Aq hb; have Bp := aM (Kd.R_lower Cs (keep_size (w := w) (g := g) (row := none) Z3)); replace HK := aM (KeepBut.trans Z3 (KeepBut.of_below hb g none) (.inl rfl)); replace HB := aM (below_step Z4 hb); replace HI0 := aM (IsS46.below Z1 hb); clear hb Cs; obtain ⟨Ha, Hb, Fk⟩ := Kd.R_slice Bp.out
       (first | subst Fk | (injection Fk with f1_ f2_ f3_; have f4_ := f1_.symm; have f5_ := f3_.symm; clear f1_ f2_ f3_; subst f4_; subst f5_))
       refine hK.out _ _ (HS0_) (fun hHeld => ?_); clear hK K; refine noR 25 ?_; refine one_ (i := 7) (N := some 26) #[true, true, true, true, true, true, true, true, false, false, false, false] rfl rfl (one_of HT_.out Z21) (by decide) (fun K hK => ?_); refine goes_ Tryz.func18 Z21 rfl #[.pointer (some ⟨g, 0, none⟩), .slice Ha Er.length Hb] (by rfl) rfl rfl Z15 ?_; (with_reducible refine (spec_l1Cur_among.calls g Ag Bq Br _ _ Er Cm C7 C8 w0 _ ?side1 ?side2 ?side3 ?side4 ?side5 Ij.out).mono ?_); (case side1 => exact Z1); (case side2 => exact Z4); (case side3 => exact (by repeat (first | exact (Kd.R_reads' Bp.out).2.2 | (with_reducible refine Kd.C_alloc ?_ _) | (with_reducible refine Kd.C_drewN ?_ _) | (with_reducible refine Kd.C_drew ?_)))); (case side4 => exact (Kd.R_reads' Bp.out).2.1); (case side5 => exact far_slice (IsS46.own_ne HI0.out Bp.out (by decide))); rintro e Jy ⟨rfl, hi, hb, hk⟩; have HS0_ := keep_cell hk (hHeld) (by first | (rw [add_block]; exact Kd.own_blk (IsS46.own_ne HI0.out Aq.out (by decide))) | (show (Addr.add _ _).block ≠ _; rw [add_block]; exact Kd.own_blk (IsS46.own_ne HI0.out Aq.out (by decide))) | exact Kd.own_blk (IsS46.own_ne HI0.out Aq.out (by decide))); refine ⟨_, rfl, ?_⟩; replace Ac := aM (Kd.R_mono (Kd.R_keep (IsS46.apart (show IsS46 w0 _ g Ag Bq Br from Z1) Z18 (by decide)) hk (fun _ h => h.2)) (fun _ h => h.1)); replace Aq := aM (Kd.R_mono (Kd.R_keep (IsS46.apart (show IsS46 w0 _ g Ag Bq Br from Z1) Z27 (by decide)) hk (fun _ h => h.2)) (fun _ h => h.1)); replace Bp := aM (Kd.R_mono (Kd.R_keep (IsS46.apart (show IsS46 w0 _ g Ag Bq Br from Z1) Z124 (by decide)) hk (fun _ h => h.2)) (fun _ h => h.1)); replace HK := aM (KeepBut.trans Z3 hk (.inl rfl)); replace HB := aM (hb); replace HI0 := aM (hi); (try clear hb); (try clear hb2); (try clear hk); (try clear hi); refine hK.out _ _ (HS0_) (fun hHeld => ?_); clear hK K; refine noR 26 ?_; refine puR 8 27 #[true, true, true, true, true, true, true, true, true, false, false, false] HT_ rfl rfl ?_; refine last_ (i := 9) (N := some 28) #[true, true, true, true, true, true, true, true, true, true, false, false] rfl rfl (one_of HT_.out Z21) (by decide) (fun K hK => ?_); refine value_ (w1 := ?_) (v := ?_) (by rfl) rfl ?_ ?_
       rotate_left 2
       ·go_simp
        constructor
        ·rfl
        ·rfl
       refine hK.out _ _ ?_; clear hK K; refine noR 28 ?_; refine last_ (i := 10) (N := some 29) #[true, true, true, true, true, true, true, true, true, true, true, false] rfl rfl (one_of HT_.out Z21) (by decide) (fun K hK => ?_); refine Kd.R_append_step k53 w.heap.size (by rfl) (.tmp 19) (.tmp 28) 24 53 (.agg #[(.string ⟨#[]⟩), (.int .i64 0)]) 24 rfl Tryz.underlying24 info53 rfl (by decide) (by omega) u3 Ao (⟨rdOf ByteArray.empty Ar Ap, Cm⟩ : S53) [.string (rdOf ByteArray.empty Ar Ap), .int .i64 Cm] (fun _ => True) (fun _ => False) rfl rfl ?aP (fun _ hk => hk.elim) ?aF ?aO (Below.refl _ _) ?aS ?aL ?_; (case aP => exact k53_mkM _ _ _ (⟨rdOf ByteArray.empty Ar Ap, Cm⟩ : S53)); (case aF => exact (fun _ _ => trivial)); (case aO => exact Z18); (case aS => exact (keep_size (w := w) (g := g) (row := none) Z3)); (case aL => have := LMc11.out; omega); intro Ip Jz ho hb hg hat; rw [← Fj.out] at ho; replace Aq := aM (Kd.R_over' Z27 (Kd.R_typed Z18) (by decide) hg); replace Bp := aM (Kd.R_over' Z124 (Kd.R_typed Z18) (by decide) hg); replace HB := aM (below_weaken Z4 HL.out hb); replace HI0 := aM (IsS46.grown Z1 hg (IsS46.own_ne HI0.out Ac.out (by decide))); replace HK := aM (KeepBut.trans Z3 (KeepBut.of_grown hg g) (Kd.R_base2 Ac.out)); have Fl := aM (ho); clear Ac; clear ho hb hg hat; refine hK.out _ _ ?_; clear hK K; refine noR 29 ?_; refine puR 11 3 #[true, true, true, true, true, true, true, true, true, true, true, true] HT_ rfl rfl ?_; refine done_ (done_of HT_.out Z21) ?_
       try go_wp2
       go_roundg k1
       case measure => have := HK1.out; omega
       case rel => exact ⟨(Fi), (wrap64 (Ap + 1)), (C7), (C8), Z12, H', ⟨Z114⟩, ⟨by (with_reducible repeat (first | apply Kd.R_alloc | apply Kd.R_drewN | apply Kd.R_drew)); exact Fl.out⟩, ⟨Z27⟩, ⟨Z1⟩, ⟨Z3⟩, ⟨Z4⟩⟩
      ·rw [if_neg Es] at H
       exact absurd H (by simp)
     ·rw [if_neg c9] at H
      exact absurd H (by simp)
    ·replace c8 := Bool.eq_false_iff.mpr c8
     subst c8
     have H1 : (spec_l1Cur_recipe.l0 k1 Ao Ar (wrap64 (Ap + 1)) Ag Bq Br) = some (r1, r2, r3) := by rw [if_neg (show ¬ (false = true) by decide)] at H; exact H
     clear H; have H := H1; clear H1; have H' := Aside0.mk H; clear H; obtain ⟨Iq, Ir, Hc⟩ := Kd.R_slice Aq.out; subst Hc
     go_wp2_with (first | ((with_reducible refine gate_callee (f := 44) rfl ?_); refine glE (some 18) Tryz.func44 #[.pointer (some ⟨g, 0, none⟩), .int .i64 2] ?_; (with_reducible refine (spec_l1Cur_one.calls g Ag Am An 2 false Bq Br w0 _ ?side1 ?side2 A7.out).mono ?_); (case side1 => exact Z1); (case side2 => exact Z4); rintro e J0 ⟨rfl, hi, hb, hk⟩; refine ⟨_, rfl, ?_⟩; replace Ac := aM (Kd.R_mono (Kd.R_keep (IsS46.apart (show IsS46 w0 _ g Ag Am An from Z1) Z18 (by decide)) hk (fun _ h => h.2)) (fun _ h => h.1)); replace Aq := aM (Kd.R_mono (Kd.R_keep (IsS46.apart (show IsS46 w0 _ g Ag Am An from Z1) Z27 (by decide)) hk (fun _ h => h.2)) (fun _ h => h.1)); replace HK := aM (KeepBut.trans Z3 hk (.inl rfl)); replace HB := aM (hb); replace HI0 := aM (hi); (try clear hb); (try clear hk); (try clear hi)))
     go_roundg k1
     case measure => have := HK1.out; omega
     case rel => exact ⟨(Ao), (wrap64 (Ap + 1)), (Bq), (Br), Z12, H', ⟨Z114⟩, ⟨Z18⟩, ⟨Z27⟩, ⟨Z1⟩, ⟨Z3⟩, ⟨Z4⟩⟩
   ·rw [if_neg c6] at H
    have c6b0 : decide (Ap < (Ar.length : Int)) = false := decide_eq_false c6; clear c6; have Et := Aside0.mk H; clear H; obtain ⟨Iu, Iv, Hd⟩ := Kd.R_slice Aq.out; subst Hd
    go_upto_region 8 with (fail)
    go_cut [37] (fun Iw wc => ∃ (kq : Nat) (Bw : Bool) (Ah : Int) (Ai : Int), Iw = .bool Bw ∧ Aside0 (spec_l1Cur_recipe.j1 kq Ao Bw Ag Ah Ai = some (r1, r2, r3)) ∧ Aside0 (kq ≤ k1) ∧ Aside0 (Kd.R k53 53 wc w.heap.size (fun _ => True) u3 Ao) ∧ Aside0 (IsS46 w0 wc g Ag Ah Ai) ∧ Aside0 (KeepBut w wc g none) ∧ Aside0 (Below w0.heap.size w0 wc))
    case first =>
     have H := Et.out; clear Et
     by_cases Ct : (Ao.length : Int) = 0
     ·rw [if_pos Ct] at H
      have c24b0 : ((Ao.length : Int) == 0) = true := beq_iff_eq.mpr Ct; have c24b1 : ((Ao.length : Int) != 0) = false := bne_eq_false_iff_eq.mpr Ct; clear Ct
      (first | rw [c24b0] | (simp only [i64_w, i32_w]; rw [c24b0]) | skip)
      replace H := Option.bind_eq_some_iff.mp H; obtain ⟨⟨Eu, Ew, Ex⟩, Fm, H⟩ := H; replace H : (spec_l1Cur_recipe.j1 k1 Ao (!Eu) Ag Ew Ex) = some (r1, r2, r3) := H; have Ix := Aside0.mk Fm; clear Fm; have H' := Aside0.mk H; clear H; obtain ⟨Iy, Iz, He⟩ := Kd.R_slice Ac.out; subst He
      go_wp2_with (first | (go_at_call 44; (with_reducible refine (spec_l1Cur_one.calls g Ag Am An 6 Eu Ew Ex w0 _ ?side1 ?side2 Ix.out).mono ?_); (case side1 => exact Z1); (case side2 => exact Z4); rintro e J1 ⟨rfl, hi, hb, hk⟩; replace Ac := aM (Kd.R_mono (Kd.R_keep (IsS46.apart (show IsS46 w0 _ g Ag Am An from Z1) Z18 (by decide)) hk (fun _ h => h.2)) (fun _ h => h.1)); replace Aq := aM (Kd.R_mono (Kd.R_keep (IsS46.apart (show IsS46 w0 _ g Ag Am An from Z1) Z27 (by decide)) hk (fun _ h => h.2)) (fun _ h => h.1)); replace HK := aM (KeepBut.trans Z3 hk (.inl rfl)); replace HB := aM (hb); replace HI0 := aM (hi); (try clear hb); (try clear hk); (try clear hi)))
      go_meet
      case rel => exact ⟨_, (!Eu), (Ew), (Ex), Z12, H', ⟨Z136⟩, ⟨Z18⟩, ⟨Z1⟩, ⟨Z3⟩, ⟨Z4⟩⟩
     ·rw [if_neg Ct] at H
      have c24b0 : ((Ao.length : Int) == 0) = false := beq_eq_false_iff_ne.mpr Ct; have c24b1 : ((Ao.length : Int) != 0) = true := bne_iff_ne.mpr Ct
      have c24b2 : ¬ (Ao = []) := fun h_ => Ct (by rw [h_]; rfl)
      (first | rw [c24b0] | (simp only [i64_w, i32_w]; rw [c24b0]) | skip)
      have H' := Aside0.mk H; clear H; obtain ⟨I0, I1, Hf⟩ := Kd.R_slice Ac.out; subst Hf
      go_wp2
      go_meet
      case rel => exact ⟨_, (false), (Am), (An), Z12, H', ⟨Z136⟩, ⟨Z18⟩, ⟨Z1⟩, ⟨Z3⟩, ⟨Z4⟩⟩
    case rest =>
     clear Et; (try clear c1); (try clear p1); (try clear q1); (try clear H4); (try clear c2); (try clear p2); (try clear c4); (try clear c6); (try clear c6b0); (try clear p6); (try clear c8); (try clear c9); (try clear c9b0); (try clear Es); (try clear Gz); (try clear G0); (try clear Fo); (try clear H5); (try clear H6); (try clear Ct); (try clear c24b0); (try clear c24b1); (try clear c24b2); (try clear Bn); (try clear Cn); (try clear p2); (try clear Co); obtain ⟨kq, Bw, Ah, Ai, rfl, HA, HJ21, Ac, HI0, HK, HB⟩ := hcut; cases kq with
     | zero => exact absurd HA.out (by simp [spec_l1Cur_recipe.j1])
     | succ C9 =>
      have H := HA.out; clear HA
      simp only [spec_l1Cur_recipe.j1] at H
      have Ey := Aside0.mk H; clear H
      go_upto_if 37 with (fail)
      go_cut [3] (fun v3 wc => ∃ (kq : Nat) (Aa : List (S53)), Aside0 (spec_l1Cur_recipe.j2 kq Aa Ag Ah Ai = some (r1, r2, r3)) ∧ Aside0 (kq ≤ C9) ∧ Aside0 (Kd.R k53 53 wc w.heap.size (fun _ => True) v3 Aa) ∧ Aside0 (IsS46 w0 wc g Ag Ah Ai) ∧ Aside0 (KeepBut w wc g none) ∧ Aside0 (Below w0.heap.size w0 wc))
      case first =>
       have H := Ey.out; clear Ey
       by_cases Fa : Bw = true
       ·subst Fa
        have H1 : (if Ao.length < 5864062014805 then (spec_l1Cur_recipe.j2 C9 (Ao ++ [(⟨(⟨#[97, 108, 117, 109]⟩ : ByteArray), 100⟩ : S53)]) Ag Ah Ai) else (none)) = some (r1, r2, r3) := by rw [if_pos rfl] at H; exact H
        clear H; have H := H1; clear H1
        by_cases Fb : Ao.length < 5864062014805
        ·rw [if_pos Fb] at H
         have LMc31 := Aside0.mk Fb; clear Fb; obtain ⟨Fp, B3⟩ : ∃ y_ : List (S53), y_ = (Ao ++ [(⟨(⟨#[97, 108, 117, 109]⟩ : ByteArray), 100⟩ : S53)]) := ⟨_, rfl⟩
         replace H : (spec_l1Cur_recipe.j2 C9 Fp Ag Ah Ai) = some (r1, r2, r3) := by first | (rw [B3]; with_reducible exact H) | (have H2_ := (Option.bind_some _ _).symm.trans H; rw [B3]; with_reducible exact H2_) | (have H2_ := (Option.bind_some _ _).symm.trans H; with_reducible exact H2_) | with_reducible exact H | (rw [B3]; exact H) | exact H
         have Fq := Aside0.mk B3; clear B3; have H' := Aside0.mk H; clear H
         go_wp2_with (first | ((with_reducible refine gate_builtin (b := .append) (xs := #[.tmp 38, .tmp 40]) rfl ?_); at_builtin; refine Kd.R_append k53 w.heap.size rfl (.tmp 38) (.tmp 40) 24 53 (.agg #[(.string ⟨#[]⟩), (.int .i64 0)]) 24 rfl Tryz.underlying24 info53 rfl (by decide) (by omega) u3 Ao (⟨(⟨#[97, 108, 117, 109]⟩ : ByteArray), 100⟩ : S53) [.string (⟨#[97, 108, 117, 109]⟩ : ByteArray), .int .i64 100] (fun _ => True) (fun _ => False) rfl rfl ?aP (fun _ hk => hk.elim) ?aF ?aO (Below.refl _ _) ?aS ?aL ?_; (case aP => exact k53_mkM _ _ _ (⟨(⟨#[97, 108, 117, 109]⟩ : ByteArray), 100⟩ : S53)); (case aF => exact (fun _ _ => trivial)); (case aO => exact Z18); (case aS => exact (keep_size (w := w) (g := g) (row := none) Z3)); (case aL => have := LMc31.out; omega); intro I2 J2 ho hb hg hat; rw [← Fq.out] at ho; replace HB := aM (below_weaken Z4 HL.out hb); replace HI0 := aM (IsS46.grown Z1 hg (IsS46.own_ne HI0.out Ac.out (by decide))); replace HK := aM (KeepBut.trans Z3 (KeepBut.of_grown hg g) (Kd.R_base2 Ac.out)); have Fr := aM (ho); clear Ac; clear ho hb hg hat))
         go_meet
         case rel => exact ⟨_, (Fp), H', ⟨Z131⟩, ⟨by (with_reducible repeat (first | apply Kd.R_alloc | apply Kd.R_drewN | apply Kd.R_drew)); exact Fr.out⟩, ⟨Z1⟩, ⟨Z3⟩, ⟨Z4⟩⟩
        ·rw [if_neg Fb] at H
         exact absurd H (by simp)
       ·replace Fa := Bool.eq_false_iff.mpr Fa
        subst Fa
        have H1 : (spec_l1Cur_recipe.j2 C9 Ao Ag Ah Ai) = some (r1, r2, r3) := by rw [if_neg (show ¬ (false = true) by decide)] at H; exact H
        clear H; have H := H1; clear H1; have H' := Aside0.mk H; clear H
        go_wp2
        go_meet
        case rel => exact ⟨_, (Ao), H', ⟨Z131⟩, ⟨Z18⟩, ⟨Z1⟩, ⟨Z3⟩, ⟨Z4⟩⟩
      case rest =>
       clear Ey; (try clear c1); (try clear p1); (try clear q1); (try clear H4); (try clear c2); (try clear p2); (try clear c3); (try clear c4); (try clear c6); (try clear c6b0); (try clear p6); (try clear c8); (try clear c9); (try clear c9b0); (try clear Es); (try clear Gz); (try clear G0); (try clear Fo); (try clear H5); (try clear H6); (try clear Ct); (try clear c24b0); (try clear c24b1); (try clear c24b2); (try clear Fa); (try clear Fb); (try clear Bn); (try clear p1); (try clear Gz); (try clear Cn); (try clear p2); (try clear p6); (try clear q1); (try clear G0); (try clear Co); obtain ⟨kq, Aa, HA, HJ28, Ac, HI0, HK, HB⟩ := hcut; cases kq with
       | zero => exact absurd HA.out (by simp [spec_l1Cur_recipe.j2])
       | succ Cu =>
        have H := HA.out; clear HA
        simp only [spec_l1Cur_recipe.j2] at H
        by_cases Da : (Aa.length : Int) = 0
        ·rw [if_pos Da] at H
         have c33b0 : ((Aa.length : Int) == 0) = true := beq_iff_eq.mpr Da; have c33b1 : ((Aa.length : Int) != 0) = false := bne_eq_false_iff_eq.mpr Da; clear Da
         simp only [Option.some.injEq, Prod.mk.injEq] at H
         obtain ⟨rfl, rfl, rfl⟩ := H; obtain ⟨I3, I4, Hg⟩ := Kd.R_slice Ac.out; subst Hg
         go_wp2
         go_ret
         exact ⟨_, Z11, Z18, Z1, Z4, Z3⟩
        ·rw [if_neg Da] at H
         have c33b0 : ((Aa.length : Int) == 0) = false := beq_eq_false_iff_ne.mpr Da; have c33b1 : ((Aa.length : Int) != 0) = true := bne_iff_ne.mpr Da
         have c33b2 : ¬ (Aa = []) := fun h_ => Da (by rw [h_]; rfl)
         replace H := Option.bind_eq_some_iff.mp H; obtain ⟨⟨Ab, Av, Aw⟩, Fs, H⟩ := H; replace H : (if 0 ≤ Ab then (if Ab < (Aa.length : Int) then ((spec_l1Cur_pick.f Ag Av Aw 40).bind fun Bf => (if Bf.1 = 0 then ((spec_l1Cur_of.f Ag Bf.2.1 Bf.2.2 (([(⟨#[]⟩ : ByteArray), (⟨#[65]⟩ : ByteArray), (⟨#[122, 105, 110, 99]⟩ : ByteArray)] : List ByteArray))).bind fun Bg => (some ((Aa.set (Ab : Int).toNat (⟨Bg.1, (rd_T53 Aa Ab).f1⟩ : S53)), Bg.2.1, Bg.2.2))) else (if Bf.1 = 1 then ((spec_l1Cur_among.f Ag Bf.2.1 Bf.2.2 (([0, 1001] : List Int))).bind fun Bh => (some ((Aa.set (Ab : Int).toNat (⟨(rd_T53 Aa Ab).f0, Bh.1⟩ : S53)), Bh.2.1, Bh.2.2))) else (if Bf.1 = 2 then (spec_l1Cur_recipe.l1 Cu (([] : List (S53))) 0 Ag Bf.2.1 Bf.2.2) else (some ((Aa.set (Ab : Int).toNat (⟨(rd_T53 Aa Ab).f0, (rd_T53 Aa Ab).f1⟩ : S53)), Bf.2.1, Bf.2.2)))))) else (none)) else (none)) = some (r1, r2, r3) := H; have G1 := Aside0.mk Fs; clear Fs
         by_cases Ft : 0 ≤ Ab
         ·rw [if_pos Ft] at H
          have c36b0 : decide (0 ≤ Ab) = true := decide_eq_true Ft; clear Ft
          by_cases Fu : Ab < (Aa.length : Int)
          ·rw [if_pos Fu] at H
           have c37b0 : decide (Ab < (Aa.length : Int)) = true := decide_eq_true Fu; clear Fu; replace H := Option.bind_eq_some_iff.mp H; obtain ⟨⟨Au, Ax, Ay⟩, Fv, H⟩ := H; replace H : (if Au = 0 then ((spec_l1Cur_of.f Ag Ax Ay (([(⟨#[]⟩ : ByteArray), (⟨#[65]⟩ : ByteArray), (⟨#[122, 105, 110, 99]⟩ : ByteArray)] : List ByteArray))).bind fun Bg => (some ((Aa.set (Ab : Int).toNat (⟨Bg.1, (rd_T53 Aa Ab).f1⟩ : S53)), Bg.2.1, Bg.2.2))) else (if Au = 1 then ((spec_l1Cur_among.f Ag Ax Ay (([0, 1001] : List Int))).bind fun Bh => (some ((Aa.set (Ab : Int).toNat (⟨(rd_T53 Aa Ab).f0, Bh.1⟩ : S53)), Bh.2.1, Bh.2.2))) else (if Au = 2 then (spec_l1Cur_recipe.l1 Cu (([] : List (S53))) 0 Ag Ax Ay) else (some ((Aa.set (Ab : Int).toNat (⟨(rd_T53 Aa Ab).f0, (rd_T53 Aa Ab).f1⟩ : S53)), Ax, Ay))))) = some (r1, r2, r3) := H; have G2 := Aside0.mk Fv; clear Fv
           by_cases Ei : Au = 0
           ·rw [if_pos Ei] at H
            have c39b0 : (Au == 0) = true := beq_iff_eq.mpr Ei; have c39b1 : (Au != 0) = false := bne_eq_false_iff_eq.mpr Ei; clear Ei; obtain ⟨Cv, B6⟩ : ∃ y_ : List ByteArray, y_ = (([(⟨#[]⟩ : ByteArray), (⟨#[65]⟩ : ByteArray), (⟨#[122, 105, 110, 99]⟩ : ByteArray)] : List ByteArray)) := ⟨_, rfl⟩
            replace H : ((spec_l1Cur_of.f Ag Ax Ay Cv).bind fun Bg => (some ((Aa.set (Ab : Int).toNat (⟨Bg.1, (rd_T53 Aa Ab).f1⟩ : S53)), Bg.2.1, Bg.2.2))) = some (r1, r2, r3) := by first | (rw [B6]; with_reducible exact H) | (have H2_ := (Option.bind_some _ _).symm.trans H; rw [B6]; with_reducible exact H2_) | (have H2_ := (Option.bind_some _ _).symm.trans H; with_reducible exact H2_) | with_reducible exact H | (rw [B6]; exact H) | exact H
            have Ej := Aside0.mk B6; clear B6; replace H := Option.bind_eq_some_iff.mp H; obtain ⟨⟨Bs, Db, Dc⟩, Fw, H⟩ := H; replace H : (some ((Aa.set (Ab : Int).toNat (⟨Bs, (rd_T53 Aa Ab).f1⟩ : S53)), Db, Dc)) = some (r1, r2, r3) := H; have I5 := Aside0.mk Fw; clear Fw; obtain ⟨Fx, B8⟩ : ∃ y_ : List (S53), y_ = (Aa.set (Ab : Int).toNat (⟨Bs, (rd_T53 Aa Ab).f1⟩ : S53)) := ⟨_, rfl⟩
            replace H : (some (Fx, Db, Dc)) = some (r1, r2, r3) := by first | (rw [B8]; with_reducible exact H) | (have H2_ := (Option.bind_some _ _).symm.trans H; rw [B8]; with_reducible exact H2_) | (have H2_ := (Option.bind_some _ _).symm.trans H; with_reducible exact H2_) | with_reducible exact H | (rw [B8]; exact H) | exact H
            have Fy := Aside0.mk B8; clear B8
            simp only [Option.some.injEq, Prod.mk.injEq] at H
            obtain ⟨rfl, rfl, rfl⟩ := H; obtain ⟨I6, Dd, Hh⟩ := Kd.R_slice Ac.out; subst Hh
            go_wp2_with (first | ((with_reducible refine gate_callee (f := 19) rfl ?_); refine glE (some 49) Tryz.func19 #[.pointer (some ⟨g, 0, none⟩), .int .i64 (Aa.length : Int)] ?_; (with_reducible refine (spec_l1Cur_pick.calls g Ag Ah Ai (Aa.length : Int) Ab Av Aw w0 _ ?side1 ?side2 G1.out).mono ?_); (case side1 => exact Z1); (case side2 => exact Z4); rintro e J3 ⟨rfl, hi, hb, hk⟩; refine ⟨_, rfl, ?_⟩; replace Ac := aM (Kd.R_mono (Kd.R_keep (IsS46.apart (show IsS46 w0 _ g Ag Ah Ai from Z1) Z18 (by decide)) hk (fun _ h => h.2)) (fun _ h => h.1)); replace HK := aM (KeepBut.trans Z3 hk (.inl rfl)); replace HB := aM (hb); replace HI0 := aM (hi); (try clear hb); (try clear hk); (try clear hi); have Bl : 0 ≤ (Ab : Int) := of_decide_eq_true Z6; have Bm : Ab < (Aa.length : Int) := of_decide_eq_true Z6; obtain ⟨ad147, e147, Az, Ba⟩ := at_T53 (Kd.R_reads' Ac.out).2.2 Ab Bl Bm; cases e147; replace Bl := eq_true Bl; replace Bm := eq_true Bm) | ((with_reducible refine gate_dst (N := 7) rfl ?_); refine bxE 7 #[.string (⟨#[]⟩ : ByteArray), .int .i64 0] 53 ?_; intro Ad hg J4 hbox hb; replace Ac := aM (Kd.R_below (Kd.R_elderB Z18 Ad (Nat.le_of_eq hg.symm)) hb); replace HB := aM (below_step Z4 hb); have Ae := aM (hbox); have Aj := aM ((Z143 : w.heap.size ≤ Ad)); have Al := aM ((Nat.le_trans Gy.out (Z143 : w.heap.size ≤ Ad) : w0.heap.size ≤ Ad)); replace HK := aM (KeepBut.trans Z3 (KeepBut.of_below hb g none) (.inl rfl)); have Af := aM ((Z145 : g ≠ Ad)); have Ak := aM ((Z146 : Ad ≠ g)); replace HI0 := aM (IsS46.below Z1 hb); clear hb hbox hg; have H7 := Ak.out; have H8 := Af.out; obtain ⟨De, Df⟩ := bz2 Ae; obtain ⟨Dg, Dh⟩ := fz2 Ae) | ((with_reducible refine gate_callee (f := 19) rfl ?_); refine glE (some 55) Tryz.func19 #[.pointer (some ⟨g, 0, none⟩), .int .i64 40] ?_; (with_reducible refine (spec_l1Cur_pick.calls g Ag Av Aw 40 Au Ax Ay w0 _ ?side1 ?side2 G2.out).mono ?_); (case side1 => exact Z9); (case side2 => exact Z13); rintro e J5 ⟨rfl, hi, hb, hk⟩; refine ⟨_, rfl, ?_⟩; replace Ac := aM (Kd.R_mono (Kd.R_keep (IsS46.apart (show IsS46 w0 _ g Ag Av Aw from Z9) Z47 (by decide)) hk (fun _ h => h.2)) (fun _ h => h.1)); replace Ae := aM (KeepBut.blk hk (g' := Ad) (o := .cells #[.string ((rd_T53 Aa Ab).f0), .int .i64 ((rd_T53 Aa Ab).f1)] 53 (0, 0)) Z33 Ak.out (by simp)); replace HK := aM (KeepBut.trans Z7 hk (.inl rfl)); replace HB := aM (hb); replace HI0 := aM (hi); (try clear hb); (try clear hk); (try clear hi)) | ((with_reducible refine gate_dst (N := 59) rfl ?_); refine Kd.R_lit Kd.string _ 9 ?hg (N := 59) ?hd (xs := ([(⟨#[]⟩ : ByteArray), (⟨#[65]⟩ : ByteArray), (⟨#[122, 105, 110, 99]⟩ : ByteArray)] : List ByteArray)) (inner := [.string (⟨#[]⟩ : ByteArray), .string (⟨#[65]⟩ : ByteArray), .string (⟨#[122, 105, 110, 99]⟩ : ByteArray)]) (ok := fun _ => True) (okp := fun _ => True) ?hr ?hp (fun _ hk => hk) trivial (Below.refl _ _) (Nat.le_refl _) (by simp) ?_; (case hd => rfl); (case hg => rfl); (case hr => first | (go_simp; done) | (go_simp; rfl)); (case hp => exact (Reps.one (show Kd.M Kd.string _ _ _ (⟨#[]⟩ : ByteArray) [.string (⟨#[]⟩ : ByteArray)] from rfl) (Reps.one (show Kd.M Kd.string _ _ _ (⟨#[65]⟩ : ByteArray) [.string (⟨#[65]⟩ : ByteArray)] from rfl) (Reps.one (show Kd.M Kd.string _ _ _ (⟨#[122, 105, 110, 99]⟩ : ByteArray) [.string (⟨#[122, 105, 110, 99]⟩ : ByteArray)] from rfl) (Reps.none _ _))))); intro I7 J6 Cw hb hg_ hnew_; clear hg_ hnew_; (first | rw [← Ej.out] at Cw | (simp only [Int.reduceToNat] at Cw; rw [← Ej.out] at Cw)); replace Ac := roB Ac hb; have Bi := aM (Kd.R_lower Cw (keep_size (w := w) (g := g) (row := none) Z7)); replace Ae := bkB Ae hb; replace HK := aM (KeepBut.trans Z7 (KeepBut.of_below hb g none) (.inl rfl)); replace HB := aM (below_step Z13 hb); replace HI0 := aM (IsS46.below Z9 hb); clear hb Cw; obtain ⟨Fz, F1, Hi⟩ := Kd.R_slice Bi.out; subst Hi) | ((with_reducible refine gate_callee (f := 45) rfl ?_); refine glE (some 60) Tryz.func45 #[.pointer (some ⟨g, 0, none⟩), .slice Fz Cv.length F1] ?_; (with_reducible refine (spec_l1Cur_of.calls g Ag Ax Ay _ _ Cv Bs Db Dc w0 _ ?side1 ?side2 ?side3 ?side4 ?side5 I5.out).mono ?_); (case side1 => exact Z9); (case side2 => exact Z13); (case side3 => exact Z99); (case side4 => exact (Kd.R_reads' Bi.out).2.1); (case side5 => exact far_slice (IsS46.own_ne HI0.out Bi.out (by decide))); rintro e Hj ⟨rfl, hi, hb, hk⟩; refine ⟨_, rfl, ?_⟩; replace Ac := aM (Kd.R_mono (Kd.R_keep (IsS46.apart (show IsS46 w0 _ g Ag Ax Ay from Z9) Z18 (by decide)) hk (fun _ h => h.2)) (fun _ h => h.1)); replace Ae := aM (KeepBut.blk hk (g' := Ad) (o := .cells #[.string ((rd_T53 Aa Ab).f0), .int .i64 ((rd_T53 Aa Ab).f1)] 53 (0, 0)) Z17 Ak.out (by simp)); replace Bi := aM (Kd.R_mono (Kd.R_keep (IsS46.apart (show IsS46 w0 _ g Ag Ax Ay from Z9) Z109 (by decide)) hk (fun _ h => h.2)) (fun _ h => h.1)); replace HK := aM (KeepBut.trans Z7 hk (.inl rfl)); replace HB := aM (hb); replace HI0 := aM (hi); (try clear hb); (try clear hk); (try clear hi); have Di : Hj.cell? ⟨Ad, 0, none⟩ = some (.string ((rd_T53 Aa Ab).f0)) := (blk_cell Ae.out 0).trans rfl; have Dj : Hj.cell? ⟨Ad, 1, none⟩ = some (.int .i64 ((rd_T53 Aa Ab).f1)) := (blk_cell Ae.out 1).trans rfl; obtain ⟨Dk, Dl⟩ := fz2 Ae) | ((with_reducible refine gate_store (t := 9) (p := 61) rfl ?_); refine store_event (t := 9) (p := 61) (v := ?vo_w53) (w1 := (Hj.setCell ⟨Ad, 0, none⟩ (.string Bs))) ?hg ?ho ?hn ?hr ?_; (case ho => rfl); (case hg => rfl); (case hn => rfl); (case hr => first | (go_simp; done) | (go_simp; rfl)); intro Cj hw; have n0_ : Aside0 (Kd.R k53 53 Cj w.heap.size (fun k_ => k_ ≠ Ad) (.slice (some ad147) Aa.length Dd) Aa) := ⟨(by rw [hw]; exact (by (with_reducible repeat (first | apply Kd.R_alloc | apply Kd.R_drewN | apply Kd.R_drew)); exact Kd.R_mono (Kd.R_far (p := ⟨Ad, 0, none⟩) (Kd.R_mono Ac.out (fun k_ hk => (⟨hk, hk.2⟩ : _ ∧ k_ ≠ Ad))) (fun _ hk => hk.2) (.string Bs)) (fun _ hk => hk.1.2)))⟩; have n1_ : Aside0 (Kd.R Kd.string 9 Cj w.heap.size (fun _ => True) (.slice Fz Cv.length F1) Cv) := ⟨(by rw [hw]; exact (by (with_reducible repeat (first | apply Kd.R_alloc | apply Kd.R_drewN | apply Kd.R_drew)); exact Kd.R_mono (Kd.R_far (p := ⟨Ad, 0, none⟩) (Kd.R_types Bi.out Ae.out (by decide)) (fun _ hk => hk.2) (.string Bs)) (fun _ hk => trivial)))⟩; have n2_ : Aside0 (Cj.heap[Ad]? = some (.cells #[.string Bs, .int .i64 ((rd_T53 Aa Ab).f1)] 53 (0, 0))) := ⟨(by rw [hw]; exact (by (with_reducible repeat (first | refine blk_drewN ?_ _ | refine blk_drew ?_ | refine blk_alloc ?_ _)); refine blk_put (cs := #[.string ((rd_T53 Aa Ab).f0), .int .i64 ((rd_T53 Aa Ab).f1)]) ?_ 0 _ rfl; (with_reducible repeat (first | refine blk_drewN ?_ _ | refine blk_drew ?_ | refine blk_alloc ?_ _)); exact Ae.out))⟩; have n3_ : Aside0 (IsS46 w0 Cj g Ag Db Dc) := ⟨(by rw [hw]; exact Z9)⟩; have n4_ : Aside0 (KeepBut w Cj g none) := ⟨(by rw [hw]; exact Z7)⟩; have n5_ : Aside0 (Below w0.heap.size w0 Cj) := ⟨(by rw [hw]; exact Z13)⟩; clear hw; clear Ac; clear Bi; clear Ae; clear HI0; clear HK; clear HB; have Ac := n0_; have Bi := n1_; have Ae := n2_; have HI0 := n3_; have HK := n4_; have HB := n5_; clear n0_ n1_ n2_ n3_ n4_ n5_; have Dm := bz1 Ae; have Dn : Cj.cell? ⟨Ad, 1, none⟩ = some (.int .i64 ((rd_T53 Aa Ab).f1)) := (blk_cell Ae.out 1).trans rfl; obtain ⟨Dp, Dq⟩ := fz2 Ae; have F2 : 0 ≤ (Ab : Int) := of_decide_eq_true Z6; have F3 : (Ab : Int) < ((Aa.length : Int) : Int) := of_decide_eq_true Z6; obtain ⟨Bu, I8, F4, F5, gl41, cl41, HG41⟩ := Kd.R_form Ac.out (by omega); (first | cases F4 | (injection F4 with ea_ en_ ec_; (first | subst ea_ | (injection ea_ with ea_; subst ea_)); subst ec_; clear en_)); have F6 := Aside0.mk F5; have I9 := Aside0.mk HG41; clear F5 gl41 HG41; (first | simp only [add_plain] at Az | skip); (first | simp only [add_plain] at Ba | skip); obtain ⟨ce41, hcl41, hM41, hcc41, hfr41⟩ := Kd.R_elem Ac.out z53 (Ab : Int) F2 F3; obtain rfl := k53_openM hM41; have Ez : Cj.cell? ⟨Bu, (Ab : Int).toNat * 2, none⟩ = some (.string ((rd_T53 Aa Ab).f0)) := hcc41 0 _ rfl; have E0 : Cj.cell? ⟨Bu, (Ab : Int).toNat * 2 + 1, none⟩ = some (.int .i64 ((rd_T53 Aa Ab).f1)) := hcc41 1 _ rfl; have Hk : Cj.frozen? ⟨Bu, (Ab : Int).toNat * 2, none⟩ = false := hfr41 0; have Hl : Cj.frozen? ⟨Bu, (Ab : Int).toNat * 2 + 1, none⟩ = false := hfr41 1; clear hcl41 hcc41 hfr41 hM41; replace F2 := eq_true F2; replace F3 := eq_true F3; have HX55 := aM (show Kd.R k53 53 Cj w.heap.size (fun k_ => k_ ≠ Ad) (.slice (some ⟨Bu, 0, none⟩) Aa.length Dd) Aa from Z18); obtain ⟨ce55, hcl55, hM55, hcc55, hfr55⟩ := Kd.R_elem HX55.out z53 (Ab : Int) (of_decide_eq_true Z6) Z142; obtain rfl := k53_openM hM55; have E1 := Kd.R_seg HX55.out (Ab : Int) (of_decide_eq_true Z6) Z142 (seg := [.string Bs, .int .i64 ((rd_T53 Aa Ab).f1)]) (j := 0) hcl55 hcc55 (show 2 ≤ 2 from by decide) (x' := (⟨Bs, (rd_T53 Aa Ab).f1⟩ : S53)) (k53_mkM _ _ _ (⟨Bs, (rd_T53 Aa Ab).f1⟩ : S53) ) (fun _ hk => hk); have Cx := hcc55 0 _ rfl; (try simp only [show (k53).sz = 2 from rfl, Nat.mul_one, Nat.add_zero] at Cx); have E2 := hfr55 0; (try simp only [show (k53).sz = 2 from rfl, Nat.mul_one, Nat.add_zero] at E2); have Cy := hcc55 1 _ rfl; (try simp only [show (k53).sz = 2 from rfl, Nat.mul_one, Nat.add_zero] at Cy); have E3 := hfr55 1; (try simp only [show (k53).sz = 2 from rfl, Nat.mul_one, Nat.add_zero] at E3); clear hcl55 hcc55 hfr55 hM55) | ((with_reducible refine gate_store (t := 53) (p := 91) rfl ?_); refine store_event (t := 53) (p := 91) (v := ?vo_w56) (w1 := ((Cj.setCell ⟨Bu, (Ab : Int).toNat * 2, none⟩ (.string Bs)).setCell ⟨Bu, (Ab : Int).toNat * 2 + 1, none⟩ (.int .i64 ((rd_T53 Aa Ab).f1)))) ?hg ?ho ?hn ?hr ?_; (case ho => rfl); (case hg => rfl); (case hn => rfl); (case hr => first | (go_simp; done) | (go_simp; rfl)); intro Hm hw; have hg : Cj.grownBy Hm (some Bu) := (by rw [hw]; exact E1.2); have hp_ : Kd.R k53 53 Hm w.heap.size (fun k_ => k_ ≠ Ad) (.slice (some ⟨Bu, 0, none⟩) Aa.length Dd) Fx := (by rw [hw, Fy.out]; exact E1.1); clear E1; replace HI0 := aM (IsS46.grown Z9 hg (IsS46.own_ne HI0.out Ac.out (by decide))); replace Ae := aM (blk_grown (g := Ad) (o := .cells #[.string Bs, .int .i64 ((rd_T53 Aa Ab).f1)] 53 (0, 0)) Z17 hg (Kd.R_away Ac.out (fun _ hk => hk))); replace Bi := aM (Kd.R_over' (v := (.slice (some ⟨Bu, 0, none⟩) Aa.length Dd)) Z109 (Kd.R_typed Ac.out) (by decide) hg); replace HB := aM ((by rw [hw]; exact below_set (below_set (HB.out) (Nat.le_trans HL.out F6.out)) (Nat.le_trans HL.out F6.out) : Below w0.heap.size w0 Hm)); replace HK := aM (KeepBut.trans Z7 (KeepBut.of_grown hg g) (Kd.R_base2 Ac.out)); replace Ac := aM (hp_); clear hg hw hp_))
            go_ret
            exact ⟨_, Z11, Z82, Z9, Z13, Z7⟩
           ·rw [if_neg Ei] at H
            have c39b0 : (Au == 0) = false := beq_eq_false_iff_ne.mpr Ei; have c39b1 : (Au != 0) = true := bne_iff_ne.mpr Ei
            by_cases Ek : Au = 1
            ·rw [if_pos Ek] at H
             have c57b0 : (Au == 1) = true := beq_iff_eq.mpr Ek; have c57b1 : (Au != 1) = false := bne_eq_false_iff_eq.mpr Ek; clear Ek; obtain ⟨Cz, Ca⟩ : ∃ y_ : List Int, y_ = (([0, 1001] : List Int)) := ⟨_, rfl⟩
             replace H : ((spec_l1Cur_among.f Ag Ax Ay Cz).bind fun Bh => (some ((Aa.set (Ab : Int).toNat (⟨(rd_T53 Aa Ab).f0, Bh.1⟩ : S53)), Bh.2.1, Bh.2.2))) = some (r1, r2, r3) := by first | (rw [Ca]; with_reducible exact H) | (have H2_ := (Option.bind_some _ _).symm.trans H; rw [Ca]; with_reducible exact H2_) | (have H2_ := (Option.bind_some _ _).symm.trans H; with_reducible exact H2_) | with_reducible exact H | (rw [Ca]; exact H) | exact H
             have El := Aside0.mk Ca; clear Ca; replace H := Option.bind_eq_some_iff.mp H; obtain ⟨⟨Bo, Dr, Ds⟩, F7, H⟩ := H; replace H : (some ((Aa.set (Ab : Int).toNat (⟨(rd_T53 Aa Ab).f0, Bo⟩ : S53)), Dr, Ds)) = some (r1, r2, r3) := H; have Ja := Aside0.mk F7; clear F7; obtain ⟨F8, Cb⟩ : ∃ y_ : List (S53), y_ = (Aa.set (Ab : Int).toNat (⟨(rd_T53 Aa Ab).f0, Bo⟩ : S53)) := ⟨_, rfl⟩
             replace H : (some (F8, Dr, Ds)) = some (r1, r2, r3) := by first | (rw [Cb]; with_reducible exact H) | (have H2_ := (Option.bind_some _ _).symm.trans H; rw [Cb]; with_reducible exact H2_) | (have H2_ := (Option.bind_some _ _).symm.trans H; with_reducible exact H2_) | with_reducible exact H | (rw [Cb]; exact H) | exact H
             have F9 := Aside0.mk Cb; clear Cb
             simp only [Option.some.injEq, Prod.mk.injEq] at H
             obtain ⟨rfl, rfl, rfl⟩ := H; obtain ⟨Jb, Dt, Hn⟩ := Kd.R_slice Ac.out; subst Hn
             go_wp2_with (first | ((with_reducible refine gate_callee (f := 19) rfl ?_); refine glE (some 49) Tryz.func19 #[.pointer (some ⟨g, 0, none⟩), .int .i64 (Aa.length : Int)] ?_; (with_reducible refine (spec_l1Cur_pick.calls g Ag Ah Ai (Aa.length : Int) Ab Av Aw w0 _ ?side1 ?side2 G1.out).mono ?_); (case side1 => exact Z1); (case side2 => exact Z4); rintro e J7 ⟨rfl, hi, hb, hk⟩; refine ⟨_, rfl, ?_⟩; replace Ac := aM (Kd.R_mono (Kd.R_keep (IsS46.apart (show IsS46 w0 _ g Ag Ah Ai from Z1) Z18 (by decide)) hk (fun _ h => h.2)) (fun _ h => h.1)); replace HK := aM (KeepBut.trans Z3 hk (.inl rfl)); replace HB := aM (hb); replace HI0 := aM (hi); (try clear hb); (try clear hk); (try clear hi); have Bl : 0 ≤ (Ab : Int) := of_decide_eq_true Z6; have Bm : Ab < (Aa.length : Int) := of_decide_eq_true Z6; obtain ⟨ad147, e147, Az, Ba⟩ := at_T53 (Kd.R_reads' Ac.out).2.2 Ab Bl Bm; cases e147; replace Bl := eq_true Bl; replace Bm := eq_true Bm) | ((with_reducible refine gate_dst (N := 7) rfl ?_); refine bxE 7 #[.string (⟨#[]⟩ : ByteArray), .int .i64 0] 53 ?_; intro Ad hg J8 hbox hb; replace Ac := aM (Kd.R_below (Kd.R_elderB Z18 Ad (Nat.le_of_eq hg.symm)) hb); replace HB := aM (below_step Z4 hb); have Ae := aM (hbox); have Aj := aM ((Z143 : w.heap.size ≤ Ad)); have Al := aM ((Nat.le_trans Gy.out (Z143 : w.heap.size ≤ Ad) : w0.heap.size ≤ Ad)); replace HK := aM (KeepBut.trans Z3 (KeepBut.of_below hb g none) (.inl rfl)); have Af := aM ((Z145 : g ≠ Ad)); have Ak := aM ((Z146 : Ad ≠ g)); replace HI0 := aM (IsS46.below Z1 hb); clear hb hbox hg; have H9 := Ak.out; have Ia := Af.out; obtain ⟨Du, Dv⟩ := bz2 Ae; obtain ⟨Dw, Dx⟩ := fz2 Ae) | ((with_reducible refine gate_callee (f := 19) rfl ?_); refine glE (some 55) Tryz.func19 #[.pointer (some ⟨g, 0, none⟩), .int .i64 40] ?_; (with_reducible refine (spec_l1Cur_pick.calls g Ag Av Aw 40 Au Ax Ay w0 _ ?side1 ?side2 G2.out).mono ?_); (case side1 => exact Z9); (case side2 => exact Z13); rintro e J9 ⟨rfl, hi, hb, hk⟩; refine ⟨_, rfl, ?_⟩; replace Ac := aM (Kd.R_mono (Kd.R_keep (IsS46.apart (show IsS46 w0 _ g Ag Av Aw from Z9) Z47 (by decide)) hk (fun _ h => h.2)) (fun _ h => h.1)); replace Ae := aM (KeepBut.blk hk (g' := Ad) (o := .cells #[.string ((rd_T53 Aa Ab).f0), .int .i64 ((rd_T53 Aa Ab).f1)] 53 (0, 0)) Z33 Ak.out (by simp)); replace HK := aM (KeepBut.trans Z7 hk (.inl rfl)); replace HB := aM (hb); replace HI0 := aM (hi); (try clear hb); (try clear hk); (try clear hi)) | ((with_reducible refine gate_dst (N := 65) rfl ?_); refine Kd.R_lit (Kd.int .i64) _ 3 ?hg (N := 65) ?hd (xs := ([0, 1001] : List Int)) (inner := [.int .i64 0, .int .i64 1001]) (ok := fun _ => True) (okp := fun _ => True) ?hr ?hp (fun _ hk => hk) trivial (Below.refl _ _) (Nat.le_refl _) (by simp) ?_; (case hd => rfl); (case hg => rfl); (case hr => first | (go_simp; done) | (go_simp; rfl)); (case hp => exact (Reps.one (show Kd.M (Kd.int .i64) _ _ _ 0 [.int .i64 0] from rfl) (Reps.one (show Kd.M (Kd.int .i64) _ _ _ 1001 [.int .i64 1001] from rfl) (Reps.none _ _)))); intro Jc Ka C0 hb hg_ hnew_; clear hg_ hnew_; (first | rw [← El.out] at C0 | (simp only [Int.reduceToNat] at C0; rw [← El.out] at C0)); replace Ac := roB Ac hb; have Bj := aM (Kd.R_lower C0 (keep_size (w := w) (g := g) (row := none) Z7)); replace Ae := bkB Ae hb; replace HK := aM (KeepBut.trans Z7 (KeepBut.of_below hb g none) (.inl rfl)); replace HB := aM (below_step Z13 hb); replace HI0 := aM (IsS46.below Z9 hb); clear hb C0; obtain ⟨Ga, Gb, Ho⟩ := Kd.R_slice Bj.out; subst Ho) | ((with_reducible refine gate_callee (f := 18) rfl ?_); refine glE (some 66) Tryz.func18 #[.pointer (some ⟨g, 0, none⟩), .slice Ga Cz.length Gb] ?_; (with_reducible refine (spec_l1Cur_among.calls g Ag Ax Ay _ _ Cz Bo Dr Ds w0 _ ?side1 ?side2 ?side3 ?side4 ?side5 Ja.out).mono ?_); (case side1 => exact Z9); (case side2 => exact Z13); (case side3 => exact (by repeat (first | exact (Kd.R_reads' Bj.out).2.2 | (with_reducible refine Kd.C_alloc ?_ _) | (with_reducible refine Kd.C_drewN ?_ _) | (with_reducible refine Kd.C_drew ?_)))); (case side4 => exact (Kd.R_reads' Bj.out).2.1); (case side5 => exact far_slice (IsS46.own_ne HI0.out Bj.out (by decide))); rintro e Hp ⟨rfl, hi, hb, hk⟩; refine ⟨_, rfl, ?_⟩; replace Ac := aM (Kd.R_mono (Kd.R_keep (IsS46.apart (show IsS46 w0 _ g Ag Ax Ay from Z9) Z18 (by decide)) hk (fun _ h => h.2)) (fun _ h => h.1)); replace Ae := aM (KeepBut.blk hk (g' := Ad) (o := .cells #[.string ((rd_T53 Aa Ab).f0), .int .i64 ((rd_T53 Aa Ab).f1)] 53 (0, 0)) Z17 Ak.out (by simp)); replace Bj := aM (Kd.R_mono (Kd.R_keep (IsS46.apart (show IsS46 w0 _ g Ag Ax Ay from Z9) Z125 (by decide)) hk (fun _ h => h.2)) (fun _ h => h.1)); replace HK := aM (KeepBut.trans Z7 hk (.inl rfl)); replace HB := aM (hb); replace HI0 := aM (hi); (try clear hb); (try clear hk); (try clear hi); have Dy : Hp.cell? ⟨Ad, 0, none⟩ = some (.string ((rd_T53 Aa Ab).f0)) := (blk_cell Ae.out 0).trans rfl; have Dz : Hp.cell? ⟨Ad, 1, none⟩ = some (.int .i64 ((rd_T53 Aa Ab).f1)) := (blk_cell Ae.out 1).trans rfl; obtain ⟨D0, D1⟩ := fz2 Ae) | ((with_reducible refine gate_store (t := 3) (p := 67) rfl ?_); refine store_event (t := 3) (p := 67) (v := ?vo_w71) (w1 := (Hp.setCell ⟨Ad, 1, none⟩ (.int .i64 Bo))) ?hg ?ho ?hn ?hr ?_; (case ho => rfl); (case hg => rfl); (case hn => rfl); (case hr => first | (go_simp; done) | (go_simp; rfl)); intro Cg hw; have n0_ : Aside0 (Kd.R k53 53 Cg w.heap.size (fun k_ => k_ ≠ Ad) (.slice (some ad147) Aa.length Dt) Aa) := ⟨(by rw [hw]; exact (by (with_reducible repeat (first | apply Kd.R_alloc | apply Kd.R_drewN | apply Kd.R_drew)); exact Kd.R_mono (Kd.R_far (p := ⟨Ad, 1, none⟩) (Kd.R_mono Ac.out (fun k_ hk => (⟨hk, hk.2⟩ : _ ∧ k_ ≠ Ad))) (fun _ hk => hk.2) (.int .i64 Bo)) (fun _ hk => hk.1.2)))⟩; have n1_ : Aside0 (Kd.R (Kd.int .i64) 3 Cg w.heap.size (fun _ => True) (.slice Ga Cz.length Gb) Cz) := ⟨(by rw [hw]; exact (by (with_reducible repeat (first | apply Kd.R_alloc | apply Kd.R_drewN | apply Kd.R_drew)); exact Kd.R_mono (Kd.R_far (p := ⟨Ad, 1, none⟩) (Kd.R_types Bj.out Ae.out (by decide)) (fun _ hk => hk.2) (.int .i64 Bo)) (fun _ hk => trivial)))⟩; have n2_ : Aside0 (Cg.heap[Ad]? = some (.cells #[.string ((rd_T53 Aa Ab).f0), .int .i64 Bo] 53 (0, 0))) := ⟨(by rw [hw]; exact (by (with_reducible repeat (first | refine blk_drewN ?_ _ | refine blk_drew ?_ | refine blk_alloc ?_ _)); refine blk_put (cs := #[.string ((rd_T53 Aa Ab).f0), .int .i64 ((rd_T53 Aa Ab).f1)]) ?_ 1 _ rfl; (with_reducible repeat (first | refine blk_drewN ?_ _ | refine blk_drew ?_ | refine blk_alloc ?_ _)); exact Ae.out))⟩; have n3_ : Aside0 (IsS46 w0 Cg g Ag Dr Ds) := ⟨(by rw [hw]; exact Z9)⟩; have n4_ : Aside0 (KeepBut w Cg g none) := ⟨(by rw [hw]; exact Z7)⟩; have n5_ : Aside0 (Below w0.heap.size w0 Cg) := ⟨(by rw [hw]; exact Z13)⟩; clear hw; clear Ac; clear Bj; clear Ae; clear HI0; clear HK; clear HB; have Ac := n0_; have Bj := n1_; have Ae := n2_; have HI0 := n3_; have HK := n4_; have HB := n5_; clear n0_ n1_ n2_ n3_ n4_ n5_; have D2 : Cg.cell? ⟨Ad, 0, none⟩ = some (.string ((rd_T53 Aa Ab).f0)) := (blk_cell Ae.out 0).trans rfl; have D3 : Cg.cell? ⟨Ad, 1, none⟩ = some (.int .i64 Bo) := (blk_cell Ae.out 1).trans rfl; obtain ⟨D4, D5⟩ := fz2 Ae; have Gc : 0 ≤ (Ab : Int) := of_decide_eq_true Z6; have Gd : (Ab : Int) < ((Aa.length : Int) : Int) := of_decide_eq_true Z6; obtain ⟨Bv, Jd, Ge, Gf, gl59, cl59, HG59⟩ := Kd.R_form Ac.out (by omega); (first | cases Ge | (injection Ge with ea_ en_ ec_; (first | subst ea_ | (injection ea_ with ea_; subst ea_)); subst ec_; clear en_)); have Gg := Aside0.mk Gf; have Je := Aside0.mk HG59; clear Gf gl59 HG59; (first | simp only [add_plain] at Az | skip); (first | simp only [add_plain] at Ba | skip); obtain ⟨ce59, hcl59, hM59, hcc59, hfr59⟩ := Kd.R_elem Ac.out z53 (Ab : Int) Gc Gd; obtain rfl := k53_openM hM59; have E4 : Cg.cell? ⟨Bv, (Ab : Int).toNat * 2, none⟩ = some (.string ((rd_T53 Aa Ab).f0)) := hcc59 0 _ rfl; have E5 : Cg.cell? ⟨Bv, (Ab : Int).toNat * 2 + 1, none⟩ = some (.int .i64 ((rd_T53 Aa Ab).f1)) := hcc59 1 _ rfl; have Hq : Cg.frozen? ⟨Bv, (Ab : Int).toNat * 2, none⟩ = false := hfr59 0; have Hr : Cg.frozen? ⟨Bv, (Ab : Int).toNat * 2 + 1, none⟩ = false := hfr59 1; clear hcl59 hcc59 hfr59 hM59; replace Gc := eq_true Gc; replace Gd := eq_true Gd; have HX73 := aM (show Kd.R k53 53 Cg w.heap.size (fun k_ => k_ ≠ Ad) (.slice (some ⟨Bv, 0, none⟩) Aa.length Dt) Aa from Z18); obtain ⟨ce73, hcl73, hM73, hcc73, hfr73⟩ := Kd.R_elem HX73.out z53 (Ab : Int) (of_decide_eq_true Z6) Z142; obtain rfl := k53_openM hM73; have E6 := Kd.R_seg HX73.out (Ab : Int) (of_decide_eq_true Z6) Z142 (seg := [.string ((rd_T53 Aa Ab).f0), .int .i64 Bo]) (j := 0) hcl73 hcc73 (show 2 ≤ 2 from by decide) (x' := (⟨(rd_T53 Aa Ab).f0, Bo⟩ : S53)) (k53_mkM _ _ _ (⟨(rd_T53 Aa Ab).f0, Bo⟩ : S53) ) (fun _ hk => hk); have C1 := hcc73 0 _ rfl; (try simp only [show (k53).sz = 2 from rfl, Nat.mul_one, Nat.add_zero] at C1); have E7 := hfr73 0; (try simp only [show (k53).sz = 2 from rfl, Nat.mul_one, Nat.add_zero] at E7); have C2 := hcc73 1 _ rfl; (try simp only [show (k53).sz = 2 from rfl, Nat.mul_one, Nat.add_zero] at C2); have E8 := hfr73 1; (try simp only [show (k53).sz = 2 from rfl, Nat.mul_one, Nat.add_zero] at E8); clear hcl73 hcc73 hfr73 hM73) | ((with_reducible refine gate_store (t := 53) (p := 91) rfl ?_); refine store_event (t := 53) (p := 91) (v := ?vo_w74) (w1 := ((Cg.setCell ⟨Bv, (Ab : Int).toNat * 2, none⟩ (.string ((rd_T53 Aa Ab).f0))).setCell ⟨Bv, (Ab : Int).toNat * 2 + 1, none⟩ (.int .i64 Bo))) ?hg ?ho ?hn ?hr ?_; (case ho => rfl); (case hg => rfl); (case hn => rfl); (case hr => first | (go_simp; done) | (go_simp; rfl)); intro Hs hw; have hg : Cg.grownBy Hs (some Bv) := (by rw [hw]; exact E6.2); have hp_ : Kd.R k53 53 Hs w.heap.size (fun k_ => k_ ≠ Ad) (.slice (some ⟨Bv, 0, none⟩) Aa.length Dt) F8 := (by rw [hw, F9.out]; exact E6.1); clear E6; replace HI0 := aM (IsS46.grown Z9 hg (IsS46.own_ne HI0.out Ac.out (by decide))); replace Ae := aM (blk_grown (g := Ad) (o := .cells #[.string ((rd_T53 Aa Ab).f0), .int .i64 Bo] 53 (0, 0)) Z17 hg (Kd.R_away Ac.out (fun _ hk => hk))); replace Bj := aM (Kd.R_over' (v := (.slice (some ⟨Bv, 0, none⟩) Aa.length Dt)) Z125 (Kd.R_typed Ac.out) (by decide) hg); replace HB := aM ((by rw [hw]; exact below_set (below_set (HB.out) (Nat.le_trans HL.out Gg.out)) (Nat.le_trans HL.out Gg.out) : Below w0.heap.size w0 Hs)); replace HK := aM (KeepBut.trans Z7 (KeepBut.of_grown hg g) (Kd.R_base2 Ac.out)); replace Ac := aM (hp_); clear hg hw hp_))
             go_ret
             exact ⟨_, Z11, Z82, Z9, Z13, Z7⟩
            ·rw [if_neg Ek] at H
             have c57b0 : (Au == 1) = false := beq_eq_false_iff_ne.mpr Ek; have c57b1 : (Au != 1) = true := bne_iff_ne.mpr Ek
             by_cases Em : Au = 2
             ·rw [if_pos Em] at H
              have c75b0 : (Au == 2) = true := beq_iff_eq.mpr Em; have c75b1 : (Au != 2) = false := bne_eq_false_iff_eq.mpr Em; clear Em; obtain ⟨Gh, Cc⟩ : ∃ y_ : List (S53), y_ = (([] : List (S53))) := ⟨_, rfl⟩
              replace H : (spec_l1Cur_recipe.l1 Cu Gh 0 Ag Ax Ay) = some (r1, r2, r3) := by first | (rw [Cc]; with_reducible exact H) | (have H2_ := (Option.bind_some _ _).symm.trans H; rw [Cc]; with_reducible exact H2_) | (have H2_ := (Option.bind_some _ _).symm.trans H; with_reducible exact H2_) | with_reducible exact H | (rw [Cc]; exact H) | exact H
              have En := Aside0.mk Cc; clear Cc; have H' := Aside0.mk H; clear H; obtain ⟨Jf, Jg, Ht⟩ := Kd.R_slice Ac.out; subst Ht
              go_wp2_with (first | ((with_reducible refine gate_callee (f := 19) rfl ?_); refine glE (some 49) Tryz.func19 #[.pointer (some ⟨g, 0, none⟩), .int .i64 (Aa.length : Int)] ?_; (with_reducible refine (spec_l1Cur_pick.calls g Ag Ah Ai (Aa.length : Int) Ab Av Aw w0 _ ?side1 ?side2 G1.out).mono ?_); (case side1 => exact Z1); (case side2 => exact Z4); rintro e Kb ⟨rfl, hi, hb, hk⟩; refine ⟨_, rfl, ?_⟩; replace Ac := aM (Kd.R_mono (Kd.R_keep (IsS46.apart (show IsS46 w0 _ g Ag Ah Ai from Z1) Z18 (by decide)) hk (fun _ h => h.2)) (fun _ h => h.1)); replace HK := aM (KeepBut.trans Z3 hk (.inl rfl)); replace HB := aM (hb); replace HI0 := aM (hi); (try clear hb); (try clear hk); (try clear hi); have Bl : 0 ≤ (Ab : Int) := of_decide_eq_true Z6; have Bm : Ab < (Aa.length : Int) := of_decide_eq_true Z6; obtain ⟨ad147, e147, Az, Ba⟩ := at_T53 (Kd.R_reads' Ac.out).2.2 Ab Bl Bm; cases e147; replace Bl := eq_true Bl; replace Bm := eq_true Bm) | ((with_reducible refine gate_dst (N := 7) rfl ?_); refine bxE 7 #[.string (⟨#[]⟩ : ByteArray), .int .i64 0] 53 ?_; intro Ad hg Kc hbox hb; replace Ac := aM (Kd.R_below (Kd.R_elderB Z18 Ad (Nat.le_of_eq hg.symm)) hb); replace HB := aM (below_step Z4 hb); have Ae := aM (hbox); have Aj := aM ((Z143 : w.heap.size ≤ Ad)); have Al := aM ((Nat.le_trans Gy.out (Z143 : w.heap.size ≤ Ad) : w0.heap.size ≤ Ad)); replace HK := aM (KeepBut.trans Z3 (KeepBut.of_below hb g none) (.inl rfl)); have Af := aM ((Z145 : g ≠ Ad)); have Ak := aM ((Z146 : Ad ≠ g)); replace HI0 := aM (IsS46.below Z1 hb); clear hb hbox hg; have Ib := Ak.out; have Ic := Af.out; obtain ⟨D6, D7⟩ := bz2 Ae; obtain ⟨D8, D9⟩ := fz2 Ae) | ((with_reducible refine gate_callee (f := 19) rfl ?_); refine glE (some 55) Tryz.func19 #[.pointer (some ⟨g, 0, none⟩), .int .i64 40] ?_; (with_reducible refine (spec_l1Cur_pick.calls g Ag Av Aw 40 Au Ax Ay w0 _ ?side1 ?side2 G2.out).mono ?_); (case side1 => exact Z9); (case side2 => exact Z13); rintro e Ke ⟨rfl, hi, hb, hk⟩; refine ⟨_, rfl, ?_⟩; replace Ac := aM (Kd.R_mono (Kd.R_keep (IsS46.apart (show IsS46 w0 _ g Ag Av Aw from Z9) Z47 (by decide)) hk (fun _ h => h.2)) (fun _ h => h.1)); replace Ae := aM (KeepBut.blk hk (g' := Ad) (o := .cells #[.string ((rd_T53 Aa Ab).f0), .int .i64 ((rd_T53 Aa Ab).f1)] 53 (0, 0)) Z33 Ak.out (by simp)); replace HK := aM (KeepBut.trans Z7 hk (.inl rfl)); replace HB := aM (hb); replace HI0 := aM (hi); (try clear hb); (try clear hk); (try clear hi)) | ((with_reducible refine gate_dst (N := 70) rfl ?_); refine Kd.R_lit k53 _ 53 ?hg (N := 70) ?hd (xs := ([] : List (S53))) (inner := []) (ok := fun _ => True) (okp := fun _ => True) ?hr ?hp (fun _ hk => hk) trivial (Below.refl _ _) (Nat.le_refl _) (by simp) ?_; (case hd => rfl); (case hg => rfl); (case hr => first | (go_simp; done) | (go_simp; rfl)); (case hp => exact (Reps.none _ _)); intro Jh Kf Cp hb hg_ hnew_; clear hg_ hnew_; (first | rw [← En.out] at Cp | (simp only [Int.reduceToNat] at Cp; rw [← En.out] at Cp)); have Gi := aM (Kd.R_lower (Kd.R_newB (Kd.R_new' Cp (Kd.R_lt Z18)) (g := Ad) (o := .cells #[.string ((rd_T53 Aa Ab).f0), .int .i64 ((rd_T53 Aa Ab).f1)] 53 (0, 0)) Z17) (keep_size (w := w) (g := g) (row := none) Z7)); replace Ac := aM (Kd.R_elder' Z18 (Kd.R_base Cp) hb); replace Ae := bkB Ae hb; replace HK := aM (KeepBut.trans Z7 (KeepBut.of_below hb g none) (.inl rfl)); replace HB := aM (below_step Z13 hb); replace HI0 := aM (IsS46.below Z9 hb); clear hb Cp))
              go_loopg [3, 8] Cu (fun kq v3 v8 w' => ∃ (Bt : List (S53)) (Bk : Int) (Bb : Int) (Bc : Int), v8 = .int .i64 Bk ∧ Aside0 (spec_l1Cur_recipe.l1 kq Bt Bk Ag Bb Bc = some (r1, r2, r3)) ∧ Aside0 (kq ≤ Cu) ∧ Aside0 (Kd.R k53 53 w' w.heap.size (fun k_ => k_ ≠ Ad) v3 Bt) ∧ Aside0 (w'.heap[Ad]? = some (.cells #[.string ((rd_T53 Aa Ab).f0), .int .i64 ((rd_T53 Aa Ab).f1)] 53 (0, 0))) ∧ Aside0 (IsS46 w0 w' g Ag Bb Bc) ∧ Aside0 (KeepBut w w' g none) ∧ Aside0 (Below w0.heap.size w0 w'))
              case atStart => exact ⟨(Gh), (0), (Ax), (Ay), Z12, H', ⟨Nat.le_refl _⟩, ⟨by (with_reducible repeat (first | apply Kd.R_alloc | apply Kd.R_drewN | apply Kd.R_drew)); exact Kd.R_mono Gi.out (fun _ hk => hk.2)⟩, ⟨Z17⟩, ⟨Z9⟩, ⟨Z7⟩, ⟨Z13⟩⟩
              case round =>
               clear H'; (try clear c1); (try clear p1); (try clear q1); (try clear H4); (try clear c2); (try clear p2); (try clear c3); (try clear c4); (try clear p4); (try clear q4); (try clear Kg); (try clear Kh); (try clear c5); (try clear p5); (try clear q5); (try clear Ki); (try clear Kj); (try clear c6); (try clear c6b0); (try clear p6); (try clear c7); (try clear Kk); (try clear Kl); (try clear c8); (try clear c9); (try clear c9b0); (try clear Es); (try clear Gz); (try clear G0); (try clear Fo); (try clear Km); (try clear Kn); (try clear Ji); (try clear H5); (try clear H6); (try clear Ko); (try clear Ct); (try clear c24b0); (try clear c24b1); (try clear c24b2); (try clear Fa); (try clear Fb); (try clear Da); (try clear c33b0); (try clear c33b1); (try clear c33b2); (try clear Ft); (try clear c36b0); (try clear Fu); (try clear c37b0); (try clear Ei); (try clear c39b0); (try clear c39b1); (try clear Kp); (try clear F2); (try clear F3); (try clear Jj); (try clear Jk); (try clear Kq); (try clear Kr); (try clear Ks); (try clear Jl); (try clear Jm); (try clear Ek); (try clear c57b0); (try clear c57b1); (try clear Kt); (try clear Gc); (try clear Gd); (try clear Jn); (try clear Jo); (try clear Ku); (try clear Kv); (try clear Kw); (try clear Jp); (try clear Jq); (try clear Em); (try clear c75b0); (try clear c75b1); (try clear Kx); (try clear De); (try clear Df); (try clear Di); (try clear Dj); (try clear Dm); (try clear Dn); (try clear Du); (try clear Dv); (try clear Dy); (try clear Dz); (try clear D2); (try clear D3); (try clear D6); (try clear D7); (try clear Dg); (try clear Dh); (try clear Dk); (try clear Dl); (try clear Dp); (try clear Dq); (try clear Dw); (try clear Dx); (try clear D0); (try clear D1); (try clear D4); (try clear D5); (try clear D8); (try clear D9); (try clear Bn); (try clear Az); (try clear Ba); (try clear Ez); (try clear E0); (try clear Cx); (try clear Cy); (try clear E4); (try clear E5); (try clear C1); (try clear C2); (try clear p1); (try clear Gz); (try clear Cn); (try clear Bl); (try clear p2); (try clear F2); (try clear Gc); (try clear p6); (try clear q1); (try clear G0); (try clear Co); (try clear Bm); (try clear F3); (try clear Gd); obtain ⟨Bt, Bk, Bb, Bc, rfl, HA, HK4, Ac, Ae, HI0, HK, HB⟩ := hrel; cases gk with
               | zero => exact absurd HA.out (by simp [spec_l1Cur_recipe.l1])
               | succ k4 =>
                have H := HA.out; clear HA
                simp only [spec_l1Cur_recipe.l1] at H
                replace H := Option.bind_eq_some_iff.mp H; obtain ⟨⟨Cq, Ch, Ci⟩, Gj, H⟩ := H; replace H : (if Bk < (wrap64 (6 + Cq)) then (if Bt.length < 5864062014805 then (spec_l1Cur_recipe.l1 k4 (Bt ++ [(⟨strOfNums (([(wrap64 (97 + Bk)) % 256] : List Int)), 5⟩ : S53)]) (wrap64 (Bk + 1)) Ag Ch Ci) else (none)) else (some (Bt, Ch, Ci))) = some (r1, r2, r3) := H; have Ie := Aside0.mk Gj; clear Gj
                by_cases Fc : Bk < (wrap64 (6 + Cq))
                ·rw [if_pos Fc] at H
                 have c85b0 : decide (Bk < (wrap64 (6 + Cq))) = true := decide_eq_true Fc; clear Fc; obtain ⟨C3, Cd⟩ : ∃ y_ : List Int, y_ = (([(wrap64 (97 + Bk)) % 256] : List Int)) := ⟨_, rfl⟩
                 replace H : (if Bt.length < 5864062014805 then (spec_l1Cur_recipe.l1 k4 (Bt ++ [(⟨strOfNums C3, 5⟩ : S53)]) (wrap64 (Bk + 1)) Ag Ch Ci) else (none)) = some (r1, r2, r3) := by first | (rw [Cd]; with_reducible exact H) | (have H2_ := (Option.bind_some _ _).symm.trans H; rw [Cd]; with_reducible exact H2_) | (have H2_ := (Option.bind_some _ _).symm.trans H; with_reducible exact H2_) | with_reducible exact H | (rw [Cd]; exact H) | exact H
                 have Eo := Aside0.mk Cd; clear Cd
                 by_cases G3 : Bt.length < 5864062014805
                 ·rw [if_pos G3] at H
                  have LMc86 := Aside0.mk G3; clear G3; obtain ⟨Gk, Ce⟩ : ∃ y_ : List (S53), y_ = (Bt ++ [(⟨strOfNums C3, 5⟩ : S53)]) := ⟨_, rfl⟩
                  replace H : (spec_l1Cur_recipe.l1 k4 Gk (wrap64 (Bk + 1)) Ag Ch Ci) = some (r1, r2, r3) := by first | (rw [Ce]; with_reducible exact H) | (have H2_ := (Option.bind_some _ _).symm.trans H; rw [Ce]; with_reducible exact H2_) | (have H2_ := (Option.bind_some _ _).symm.trans H; with_reducible exact H2_) | with_reducible exact H | (rw [Ce]; exact H) | exact H
                  have Gl := Aside0.mk Ce; clear Ce; have H' := Aside0.mk H; clear H
                  go_wp2_with (first | ((with_reducible refine gate_callee (f := 19) rfl ?_); refine glE (some 73) Tryz.func19 #[.pointer (some ⟨g, 0, none⟩), .int .i64 2] ?_; (with_reducible refine (spec_l1Cur_pick.calls g Ag Bb Bc 2 Cq Ch Ci w0 _ ?side1 ?side2 Ie.out).mono ?_); (case side1 => exact Z9); (case side2 => exact Z13); rintro e Ky ⟨rfl, hi, hb, hk⟩; refine ⟨_, rfl, ?_⟩; replace Ac := aM (Kd.R_mono (Kd.R_keep (IsS46.apart (show IsS46 w0 _ g Ag Bb Bc from Z9) Z18 (by decide)) hk (fun _ h => h.2)) (fun _ h => h.1)); replace Ae := aM (KeepBut.blk hk (g' := Ad) (o := .cells #[.string ((rd_T53 Aa Ab).f0), .int .i64 ((rd_T53 Aa Ab).f1)] 53 (0, 0)) Z17 Ak.out (by simp)); replace HK := aM (KeepBut.trans Z7 hk (.inl rfl)); replace HB := aM (hb); replace HI0 := aM (hi); (try clear hb); (try clear hk); (try clear hi)) | ((with_reducible refine gate_dst (N := 82) rfl ?_); refine Kd.R_lit (Kd.int .u8) _ 5 ?hg (N := 82) ?hd (xs := ([(wrap64 (97 + Bk)) % 256] : List Int)) (inner := [.int .u8 ((wrap64 (97 + Bk)) % 256)]) (ok := fun _ => True) (okp := fun _ => True) ?hr ?hp (fun _ hk => hk) trivial (Below.refl _ _) (Nat.le_refl _) (by simp) ?_; (case hd => rfl); (case hg => rfl); (case hr => first | (go_simp; done) | (go_simp; rfl)); (case hp => exact (Reps.one (show Kd.M (Kd.int .u8) _ _ _ ((wrap64 (97 + Bk)) % 256) [.int .u8 ((wrap64 (97 + Bk)) % 256)] from rfl) (Reps.none _ _))); intro Jr Kz C4 hb hg_ hnew_; clear hg_ hnew_; (first | rw [← Eo.out] at C4 | (simp only [Int.reduceToNat] at C4; rw [← Eo.out] at C4)); replace Ac := roB Ac hb; have C5 := aM (Kd.R_lower C4 (keep_size (w := w) (g := g) (row := none) Z7)); replace Ae := bkB Ae hb; replace HK := aM (KeepBut.trans Z7 (KeepBut.of_below hb g none) (.inl rfl)); replace HB := aM (below_step Z13 hb); replace HI0 := aM (IsS46.below Z9 hb); clear hb C4; have hcv90 := own_string (P := Tryz.prog) Tryz.underlying22 Tryz.underlying5 Tryz.underlying9 (Kd.own_of_R C5.out)) | ((with_reducible refine gate_builtin (b := .append) (xs := #[.tmp 78, .tmp 85]) rfl ?_); at_builtin; refine Kd.R_append k53 w.heap.size rfl (.tmp 78) (.tmp 85) 24 53 (.agg #[(.string ⟨#[]⟩), (.int .i64 0)]) 24 rfl Tryz.underlying24 info53 rfl (by decide) (by omega) u3 Bt (⟨strOfNums C3, 5⟩ : S53) [.string (strOfNums C3), .int .i64 5] (fun k_ => k_ ≠ Ad) (fun _ => False) rfl rfl ?aP (fun _ hk => hk.elim) ?aF ?aO (Below.refl _ _) ?aS ?aL ?_; (case aP => exact k53_mkM _ _ _ (⟨strOfNums C3, 5⟩ : S53)); (case aF => exact (fun k_ hk => Kd.freshB (g := Ad) (o := .cells #[.string ((rd_T53 Aa Ab).f0), .int .i64 ((rd_T53 Aa Ab).f1)] 53 (0, 0)) Z17 k_ hk)); (case aO => exact Z18); (case aS => exact (keep_size (w := w) (g := g) (row := none) Z7)); (case aL => have := LMc86.out; omega); intro Js K0 ho hb hg hat; rw [← Gl.out] at ho; replace Ae := aM (blk_grown (g := Ad) (o := .cells #[.string ((rd_T53 Aa Ab).f0), .int .i64 ((rd_T53 Aa Ab).f1)] 53 (0, 0)) Z17 hg (Kd.R_away Ac.out (fun _ hk => hk))); replace C5 := aM (Kd.R_over' (by (with_reducible repeat (first | apply Kd.R_alloc | apply Kd.R_drewN | apply Kd.R_drew)); exact C5.out) (Kd.R_typed Z18) (by decide) hg); replace HB := aM (below_weaken Z13 HL.out hb); replace HI0 := aM (IsS46.grown Z9 hg (IsS46.own_ne HI0.out Ac.out (by decide))); replace HK := aM (KeepBut.trans Z7 (KeepBut.of_grown hg g) (Kd.R_base2 Ac.out)); have Gm := aM (ho); clear Ac; clear ho hb hg hat))
                  go_roundg k4
                  case measure => have := HK1.out; have := HJ21.out; have := HJ28.out; have := HK4.out; omega
                  case rel => exact ⟨(Gk), (wrap64 (Bk + 1)), (Ch), (Ci), Z12, H', ⟨by have := HK1.out; have := HJ21.out; have := HJ28.out; have := HK4.out; omega⟩, ⟨by (with_reducible repeat (first | apply Kd.R_alloc | apply Kd.R_drewN | apply Kd.R_drew)); exact Gm.out⟩, ⟨Z17⟩, ⟨Z9⟩, ⟨Z7⟩, ⟨Z13⟩⟩
                 ·rw [if_neg G3] at H
                  exact absurd H (by simp)
                ·rw [if_neg Fc] at H
                 have c85b0 : decide (Bk < (wrap64 (6 + Cq))) = false := decide_eq_false Fc; clear Fc
                 simp only [Option.some.injEq, Prod.mk.injEq] at H
                 obtain ⟨rfl, rfl, rfl⟩ := H
                 go_wp2_with (first | ((with_reducible refine gate_callee (f := 19) rfl ?_); refine glE (some 73) Tryz.func19 #[.pointer (some ⟨g, 0, none⟩), .int .i64 2] ?_; (with_reducible refine (spec_l1Cur_pick.calls g Ag Bb Bc 2 Cq Ch Ci w0 _ ?side1 ?side2 Ie.out).mono ?_); (case side1 => exact Z9); (case side2 => exact Z13); rintro e K1 ⟨rfl, hi, hb, hk⟩; refine ⟨_, rfl, ?_⟩; replace Ac := aM (Kd.R_mono (Kd.R_keep (IsS46.apart (show IsS46 w0 _ g Ag Bb Bc from Z9) Z18 (by decide)) hk (fun _ h => h.2)) (fun _ h => h.1)); replace Ae := aM (KeepBut.blk hk (g' := Ad) (o := .cells #[.string ((rd_T53 Aa Ab).f0), .int .i64 ((rd_T53 Aa Ab).f1)] 53 (0, 0)) Z17 Ak.out (by simp)); replace HK := aM (KeepBut.trans Z7 hk (.inl rfl)); replace HB := aM (hb); replace HI0 := aM (hi); (try clear hb); (try clear hk); (try clear hi)))
                 go_ret
                 exact ⟨_, Z11, Z82, Z9, Z13, Z7⟩
             ·rw [if_neg Em] at H
              have c75b0 : (Au == 2) = false := beq_eq_false_iff_ne.mpr Em; have c75b1 : (Au != 2) = true := bne_iff_ne.mpr Em; obtain ⟨Gn, Cf⟩ : ∃ y_ : List (S53), y_ = (Aa.set (Ab : Int).toNat (⟨(rd_T53 Aa Ab).f0, (rd_T53 Aa Ab).f1⟩ : S53)) := ⟨_, rfl⟩
              replace H : (some (Gn, Ax, Ay)) = some (r1, r2, r3) := by first | (rw [Cf]; with_reducible exact H) | (have H2_ := (Option.bind_some _ _).symm.trans H; rw [Cf]; with_reducible exact H2_) | (have H2_ := (Option.bind_some _ _).symm.trans H; with_reducible exact H2_) | with_reducible exact H | (rw [Cf]; exact H) | exact H
              have Gp := Aside0.mk Cf; clear Cf
              simp only [Option.some.injEq, Prod.mk.injEq] at H
              obtain ⟨rfl, rfl, rfl⟩ := H; obtain ⟨Jt, Gq, Hu⟩ := Kd.R_slice Ac.out; subst Hu
              go_wp2_with (first | ((with_reducible refine gate_callee (f := 19) rfl ?_); refine glE (some 49) Tryz.func19 #[.pointer (some ⟨g, 0, none⟩), .int .i64 (Aa.length : Int)] ?_; (with_reducible refine (spec_l1Cur_pick.calls g Ag Ah Ai (Aa.length : Int) Ab Av Aw w0 _ ?side1 ?side2 G1.out).mono ?_); (case side1 => exact Z1); (case side2 => exact Z4); rintro e K2 ⟨rfl, hi, hb, hk⟩; refine ⟨_, rfl, ?_⟩; replace Ac := aM (Kd.R_mono (Kd.R_keep (IsS46.apart (show IsS46 w0 _ g Ag Ah Ai from Z1) Z18 (by decide)) hk (fun _ h => h.2)) (fun _ h => h.1)); replace HK := aM (KeepBut.trans Z3 hk (.inl rfl)); replace HB := aM (hb); replace HI0 := aM (hi); (try clear hb); (try clear hk); (try clear hi); have Bl : 0 ≤ (Ab : Int) := of_decide_eq_true Z6; have Bm : Ab < (Aa.length : Int) := of_decide_eq_true Z6; obtain ⟨ad147, e147, Az, Ba⟩ := at_T53 (Kd.R_reads' Ac.out).2.2 Ab Bl Bm; cases e147; replace Bl := eq_true Bl; replace Bm := eq_true Bm) | ((with_reducible refine gate_dst (N := 7) rfl ?_); refine bxE 7 #[.string (⟨#[]⟩ : ByteArray), .int .i64 0] 53 ?_; intro Ad hg K3 hbox hb; replace Ac := aM (Kd.R_below (Kd.R_elderB Z18 Ad (Nat.le_of_eq hg.symm)) hb); replace HB := aM (below_step Z4 hb); have Ae := aM (hbox); have Aj := aM ((Z143 : w.heap.size ≤ Ad)); have Al := aM ((Nat.le_trans Gy.out (Z143 : w.heap.size ≤ Ad) : w0.heap.size ≤ Ad)); replace HK := aM (KeepBut.trans Z3 (KeepBut.of_below hb g none) (.inl rfl)); have Af := aM ((Z145 : g ≠ Ad)); have Ak := aM ((Z146 : Ad ≠ g)); replace HI0 := aM (IsS46.below Z1 hb); clear hb hbox hg; have Ig := Ak.out; have Ih := Af.out; obtain ⟨G4, G5⟩ := bz2 Ae; obtain ⟨G6, G7⟩ := fz2 Ae) | ((with_reducible refine gate_callee (f := 19) rfl ?_); refine glE (some 55) Tryz.func19 #[.pointer (some ⟨g, 0, none⟩), .int .i64 40] ?_; (with_reducible refine (spec_l1Cur_pick.calls g Ag Av Aw 40 Au Ax Ay w0 _ ?side1 ?side2 G2.out).mono ?_); (case side1 => exact Z9); (case side2 => exact Z13); rintro e Ea ⟨rfl, hi, hb, hk⟩; refine ⟨_, rfl, ?_⟩; replace Ac := aM (Kd.R_mono (Kd.R_keep (IsS46.apart (show IsS46 w0 _ g Ag Av Aw from Z9) Z47 (by decide)) hk (fun _ h => h.2)) (fun _ h => h.1)); replace Ae := aM (KeepBut.blk hk (g' := Ad) (o := .cells #[.string ((rd_T53 Aa Ab).f0), .int .i64 ((rd_T53 Aa Ab).f1)] 53 (0, 0)) Z33 Ak.out (by simp)); replace HK := aM (KeepBut.trans Z7 hk (.inl rfl)); replace HB := aM (hb); replace HI0 := aM (hi); (try clear hb); (try clear hk); (try clear hi); have Gr : Ea.cell? ⟨Ad, 0, none⟩ = some (.string ((rd_T53 Aa Ab).f0)) := (blk_cell Ae.out 0).trans rfl; have Gs : Ea.cell? ⟨Ad, 1, none⟩ = some (.int .i64 ((rd_T53 Aa Ab).f1)) := (blk_cell Ae.out 1).trans rfl; obtain ⟨Gt, Gu⟩ := fz2 Ae; have Hv : 0 ≤ (Ab : Int) := of_decide_eq_true Z6; have Hw : (Ab : Int) < ((Aa.length : Int) : Int) := of_decide_eq_true Z6; obtain ⟨Bx, Ju, Gv, Gw, gl93, cl93, HG93⟩ := Kd.R_form Ac.out (by omega); (first | cases Gv | (injection Gv with ea_ en_ ec_; (first | subst ea_ | (injection ea_ with ea_; subst ea_)); subst ec_; clear en_)); have Gx := Aside0.mk Gw; have Jv := Aside0.mk HG93; clear Gw gl93 HG93; (first | simp only [add_plain] at Az | skip); (first | simp only [add_plain] at Ba | skip); obtain ⟨ce93, hcl93, hM93, hcc93, hfr93⟩ := Kd.R_elem Ac.out z53 (Ab : Int) Hv Hw; obtain rfl := k53_openM hM93; have Hx : Ea.cell? ⟨Bx, (Ab : Int).toNat * 2, none⟩ = some (.string ((rd_T53 Aa Ab).f0)) := hcc93 0 _ rfl; have Hy : Ea.cell? ⟨Bx, (Ab : Int).toNat * 2 + 1, none⟩ = some (.int .i64 ((rd_T53 Aa Ab).f1)) := hcc93 1 _ rfl; have Hz : Ea.frozen? ⟨Bx, (Ab : Int).toNat * 2, none⟩ = false := hfr93 0; have H0 : Ea.frozen? ⟨Bx, (Ab : Int).toNat * 2 + 1, none⟩ = false := hfr93 1; clear hcl93 hcc93 hfr93 hM93; replace Hv := eq_true Hv; replace Hw := eq_true Hw; have n_ := aM (Kd.R_mono (ok' := (fun k_ => k_ ≠ Ad)) Ac.out (fun k_ hk => hk.2)); clear Ac; have Ac := n_; clear n_; have HX101 := aM (show Kd.R k53 53 Ea w.heap.size (fun k_ => k_ ≠ Ad) (.slice (some ⟨Bx, 0, none⟩) Aa.length Gq) Aa from Z18); obtain ⟨ce101, hcl101, hM101, hcc101, hfr101⟩ := Kd.R_elem HX101.out z53 (Ab : Int) (of_decide_eq_true Z6) Z142; obtain rfl := k53_openM hM101; have C6 := Kd.R_seg HX101.out (Ab : Int) (of_decide_eq_true Z6) Z142 (seg := [.string ((rd_T53 Aa Ab).f0), .int .i64 ((rd_T53 Aa Ab).f1)]) (j := 0) hcl101 hcc101 (show 2 ≤ 2 from by decide) (x' := (⟨(rd_T53 Aa Ab).f0, (rd_T53 Aa Ab).f1⟩ : S53)) (k53_mkM _ _ _ (⟨(rd_T53 Aa Ab).f0, (rd_T53 Aa Ab).f1⟩ : S53) ) (fun _ hk => hk); have Eb := hcc101 0 _ rfl; (try simp only [show (k53).sz = 2 from rfl, Nat.mul_one, Nat.add_zero] at Eb); have Ec := hfr101 0; (try simp only [show (k53).sz = 2 from rfl, Nat.mul_one, Nat.add_zero] at Ec); have Ed := hcc101 1 _ rfl; (try simp only [show (k53).sz = 2 from rfl, Nat.mul_one, Nat.add_zero] at Ed); have Ee := hfr101 1; (try simp only [show (k53).sz = 2 from rfl, Nat.mul_one, Nat.add_zero] at Ee); clear hcl101 hcc101 hfr101 hM101) | ((with_reducible refine gate_store (t := 53) (p := 91) rfl ?_); refine store_event (t := 53) (p := 91) (v := ?vo_w102) (w1 := ((Ea.setCell ⟨Bx, (Ab : Int).toNat * 2, none⟩ (.string ((rd_T53 Aa Ab).f0))).setCell ⟨Bx, (Ab : Int).toNat * 2 + 1, none⟩ (.int .i64 ((rd_T53 Aa Ab).f1)))) ?hg ?ho ?hn ?hr ?_; (case ho => rfl); (case hg => rfl); (case hn => rfl); (case hr => first | (go_simp; done) | (go_simp; rfl)); intro E9 hw; have hg : Ea.grownBy E9 (some Bx) := (by rw [hw]; exact C6.2); have hp_ : Kd.R k53 53 E9 w.heap.size (fun k_ => k_ ≠ Ad) (.slice (some ⟨Bx, 0, none⟩) Aa.length Gq) Gn := (by rw [hw, Gp.out]; exact C6.1); clear C6; replace HI0 := aM (IsS46.grown Z9 hg (IsS46.own_ne HI0.out Ac.out (by decide))); replace Ae := aM (blk_grown (g := Ad) (o := .cells #[.string ((rd_T53 Aa Ab).f0), .int .i64 ((rd_T53 Aa Ab).f1)] 53 (0, 0)) Z17 hg (Kd.R_away Ac.out (fun _ hk => hk))); replace HB := aM ((by rw [hw]; exact below_set (below_set (HB.out) (Nat.le_trans HL.out Gx.out)) (Nat.le_trans HL.out Gx.out) : Below w0.heap.size w0 E9)); replace HK := aM (KeepBut.trans Z7 (KeepBut.of_grown hg g) (Kd.R_base2 Ac.out)); replace Ac := aM (hp_); clear hg hw hp_))
              go_ret
              exact ⟨_, Z11, Z82, Z9, Z13, Z7⟩
          ·rw [if_neg Fu] at H
           exact absurd H (by simp)
         ·rw [if_neg Ft] at H
          exact absurd H (by simp)
def spec_DrawMixRecipes.f (k : Nat) (l0 : List Int) : Option ((List (S53)) × (List (S53)) × Int) := (spec_l1Cur_recipe.f k l0 0 0).bind fun bt180 => ((spec_l1Cur_recipe.f k l0 bt180.2.1 bt180.2.2).bind fun bt185 => ((some (([0, 1, 50, 99, 100, (-1), 101] : List Int) : List Int)).bind fun y190 => ((spec_l1Cur_pick.f l0 bt185.2.1 bt185.2.2 24).bind fun bt193 => (if 0 ≤ (wrap64 (5 + (wrap64 (Int.tdiv bt193.1 11)))) then (if (wrap64 (5 + (wrap64 (Int.tdiv bt193.1 11)))) ≤ (y190.length : Int) then ((spec_l1Cur_among.f l0 bt193.2.1 bt193.2.2 (y190.take ((wrap64 (5 + (wrap64 (Int.tdiv bt193.1 11)))) : Int).toNat)).bind fun bt200 => (some (bt180.1, bt185.1, bt200.1))) else (none)) else (none)))))
theorem spec_DrawMixRecipes.calls (k : Nat) (A0 : Option Addr) (c0 : Nat) (l0 : List Int) (r1 : List (S53)) (r2 : List (S53)) (r3 : Int) (w : World) (Bn : Kd.C (Kd.int .u8) w A0 l0.length l0) (Bo : l0.length ≤ c0) (h : spec_DrawMixRecipes.f k l0 = some (r1, r2, r3)) :
  Calls Tryz.prog 5 #[.slice A0 l0.length c0] w fun e w' => ∃ v0_ v1_ : Value, e = .returned (.tuple #[v0_, v1_, .int .i64 r3]) ∧ Kd.R k53 53 w' w.heap.size (fun k_ => nV k_ v1_) v0_ r1 ∧ Kd.R k53 53 w' w.heap.size (fun k_ => nV k_ v0_) v1_ r2 ∧ Below w.heap.size w w' := by
 have hu46 := Tryz.underlying46; have Bt := Aside0.mk Bn; have Bx := Aside0.mk Bo; clear Bn Bo; have HB := aM (Below.refl w.heap.size w); have H : ((spec_l1Cur_recipe.f k l0 0 0).bind fun Ar => ((spec_l1Cur_recipe.f k l0 Ar.2.1 Ar.2.2).bind fun Ag => ((some (([0, 1, 50, 99, 100, (-1), 101] : List Int) : List Int)).bind fun Ac => ((spec_l1Cur_pick.f l0 Ag.2.1 Ag.2.2 24).bind fun Aa => (if 0 ≤ (wrap64 (5 + (wrap64 (Int.tdiv Aa.1 11)))) then (if (wrap64 (5 + (wrap64 (Int.tdiv Aa.1 11)))) ≤ (Ac.length : Int) then ((spec_l1Cur_among.f l0 Aa.2.1 Aa.2.2 (Ac.take ((wrap64 (5 + (wrap64 (Int.tdiv Aa.1 11)))) : Int).toNat)).bind fun Ad => (some (Ar.1, Ag.1, Ad.1))) else (none)) else (none)))))) = some (r1, r2, r3) := h; clear h; replace H := Option.bind_eq_some_iff.mp H; obtain ⟨⟨Ai, Aw, Ax⟩, Bp, H⟩ := H; replace H : ((spec_l1Cur_recipe.f k l0 Aw Ax).bind fun Ag => ((some (([0, 1, 50, 99, 100, (-1), 101] : List Int) : List Int)).bind fun Ac => ((spec_l1Cur_pick.f l0 Ag.2.1 Ag.2.2 24).bind fun Aa => (if 0 ≤ (wrap64 (5 + (wrap64 (Int.tdiv Aa.1 11)))) then (if (wrap64 (5 + (wrap64 (Int.tdiv Aa.1 11)))) ≤ (Ac.length : Int) then ((spec_l1Cur_among.f l0 Aa.2.1 Aa.2.2 (Ac.take ((wrap64 (5 + (wrap64 (Int.tdiv Aa.1 11)))) : Int).toNat)).bind fun Ad => (some (Ai, Ag.1, Ad.1))) else (none)) else (none))))) = some (r1, r2, r3) := H; have A2 := Aside0.mk Bp; clear Bp; replace H := Option.bind_eq_some_iff.mp H; obtain ⟨⟨An, Ao, Ap⟩, Bq, H⟩ := H; replace H : ((some (([0, 1, 50, 99, 100, (-1), 101] : List Int) : List Int)).bind fun Ac => ((spec_l1Cur_pick.f l0 Ao Ap 24).bind fun Aa => (if 0 ≤ (wrap64 (5 + (wrap64 (Int.tdiv Aa.1 11)))) then (if (wrap64 (5 + (wrap64 (Int.tdiv Aa.1 11)))) ≤ (Ac.length : Int) then ((spec_l1Cur_among.f l0 Aa.2.1 Aa.2.2 (Ac.take ((wrap64 (5 + (wrap64 (Int.tdiv Aa.1 11)))) : Int).toNat)).bind fun Ad => (some (Ai, An, Ad.1))) else (none)) else (none)))) = some (r1, r2, r3) := H; have A3 := Aside0.mk Bq; clear Bq; obtain ⟨Ac, Aj⟩ : ∃ y_ : List Int, y_ = (([0, 1, 50, 99, 100, (-1), 101] : List Int)) := ⟨_, rfl⟩
 replace H : ((spec_l1Cur_pick.f l0 Ao Ap 24).bind fun Aa => (if 0 ≤ (wrap64 (5 + (wrap64 (Int.tdiv Aa.1 11)))) then (if (wrap64 (5 + (wrap64 (Int.tdiv Aa.1 11)))) ≤ (Ac.length : Int) then ((spec_l1Cur_among.f l0 Aa.2.1 Aa.2.2 (Ac.take ((wrap64 (5 + (wrap64 (Int.tdiv Aa.1 11)))) : Int).toNat)).bind fun Ad => (some (Ai, An, Ad.1))) else (none)) else (none))) = some (r1, r2, r3) := by first | (rw [Aj]; with_reducible exact H) | (have H2_ := (Option.bind_some _ _).symm.trans H; rw [Aj]; with_reducible exact H2_) | (have H2_ := (Option.bind_some _ _).symm.trans H; with_reducible exact H2_) | with_reducible exact H | (rw [Aj]; exact H) | exact H
 have Az := Aside0.mk Aj; clear Aj; replace H := Option.bind_eq_some_iff.mp H; obtain ⟨⟨Aq, Ak, Al⟩, Br, H⟩ := H; replace H : (if 0 ≤ (wrap64 (5 + (wrap64 (Int.tdiv Aq 11)))) then (if (wrap64 (5 + (wrap64 (Int.tdiv Aq 11)))) ≤ (Ac.length : Int) then ((spec_l1Cur_among.f l0 Ak Al (Ac.take ((wrap64 (5 + (wrap64 (Int.tdiv Aq 11)))) : Int).toNat)).bind fun Ad => (some (Ai, An, Ad.1))) else (none)) else (none)) = some (r1, r2, r3) := H; have A4 := Aside0.mk Br; clear Br; obtain ⟨ji5, hji5⟩ : ∃ j_ : Int, (wrap64 (5 + (wrap64 (Int.tdiv Aq 11)))) = j_ := ⟨_, rfl⟩
 replace H : (if 0 ≤ (ji5) then (if (ji5) ≤ (Ac.length : Int) then ((spec_l1Cur_among.f l0 Ak Al (Ac.take ((ji5) : Int).toNat)).bind fun Ad => (some (Ai, An, Ad.1))) else (none)) else (none)) = some (r1, r2, r3) := by first | (rw [hji5] at H; exact H) | (simp only [hji5] at H ⊢; exact H)
 (try rw [hji5] at A2)
 (try rw [hji5] at A3)
 (try rw [hji5] at A4)
 have hji5w : (IntKind.i64.wrap (5 + (wrap64 (Int.tdiv Aq 11)))) = ji5 := (i64_w _).trans hji5
 by_cases c6 : 0 ≤ (ji5)
 ·rw [if_pos c6] at H
  have c6b0 := eq_true c6; have c6b1 : decide (0 ≤ (ji5)) = true := decide_eq_true c6; clear c6
  by_cases c7 : (ji5) ≤ (Ac.length : Int)
  ·rw [if_pos c7] at H
   have c7b0 := eq_true c7; have c7b1 : decide ((ji5) ≤ (Ac.length : Int)) = true := decide_eq_true c7; clear c7; obtain ⟨Au, Am⟩ : ∃ y_ : List Int, y_ = (Ac.take ((ji5) : Int).toNat) := ⟨_, rfl⟩
   replace H : ((spec_l1Cur_among.f l0 Ak Al Au).bind fun Ad => (some (Ai, An, Ad.1))) = some (r1, r2, r3) := by first | (rw [Am]; with_reducible exact H) | (have H2_ := (Option.bind_some _ _).symm.trans H; rw [Am]; with_reducible exact H2_) | (have H2_ := (Option.bind_some _ _).symm.trans H; with_reducible exact H2_) | with_reducible exact H | (rw [Am]; exact H) | exact H
   have Ba := Aside0.mk Am; clear Am; replace H := Option.bind_eq_some_iff.mp H; obtain ⟨⟨Bh, Bj, Bk⟩, Bs, H⟩ := H; replace H : (some (Ai, An, Bh)) = some (r1, r2, r3) := H; have A8 := Aside0.mk Bs; clear Bs
   simp only [Option.some.injEq, Prod.mk.injEq] at H
   obtain ⟨rfl, rfl, rfl⟩ := H
   go_enter Tryz.func5, Tryz.ntmps5
   go_wp2_with (first | ((with_reducible refine gate_dst (N := 10) rfl ?_); refine bxE 10 #[.slice A0 l0.length c0, .int .i64 0, .int .u64 0] 46 ?_; intro Ab hg w9 hbox hb; have HI179 := aM ((⟨A0, c0, hbox, (by rw [hg]; exact (below_size Z0) : w.heap.size ≤ Ab), Bt.out⟩ : IsS46 w _ Ab l0 0 0)); replace HB := hbS Z0 hb; clear hb hbox hg) | ((with_reducible refine gate_callee (f := 17) rfl ?_); refine glE (some 12) Tryz.func17 #[.pointer (some ⟨Ab, 0, none⟩)] ?_; (with_reducible refine (spec_l1Cur_recipe.calls k Ab l0 0 0 Ai Aw Ax w _ ?side1 ?side2 A2.out).mono ?_); (case side1 => exact Z30); (case side2 => exact Z39); rintro e Bz ⟨Bu, rfl, Bg, hi, hb, hk⟩; refine ⟨_, rfl, ?_⟩; have Ae := aM (Kd.R_lower Bg (below_size Z39)); replace HB := aM (hb); replace HI179 := aM (hi); (try clear hb); (try clear hk); (try clear hi); (try clear Bg)) | ((with_reducible refine gate_callee (f := 17) rfl ?_); refine glE (some 14) Tryz.func17 #[.pointer (some ⟨Ab, 0, none⟩)] ?_; (with_reducible refine (spec_l1Cur_recipe.calls k Ab l0 Aw Ax An Ao Ap w _ ?side1 ?side2 A3.out).mono ?_); (case side1 => exact Z30); (case side2 => exact Z39); rintro e B0 ⟨Bv, rfl, Bg, hi, hb, hk⟩; refine ⟨_, rfl, ?_⟩; have Ah := aM (Kd.R_lower (Kd.R_new' Bg (Kd.R_lt Z28)) (below_size Z39)); replace Ae := aM (Kd.R_mono (Kd.R_told (Kd.R_oldK (IsS46.apart (show IsS46 w _ Ab l0 Aw Ax from Z30) Z28 (by decide)) hk) (Kd.R_base Bg)) (fun _ h_ => h_.1)); replace HB := aM (hb); replace HI179 := aM (hi); (try clear hb); (try clear hk); (try clear hi); (try clear Bg)) | ((with_reducible refine gate_dst (N := 18) rfl ?_); refine Kd.R_lit (Kd.int .i64) _ 3 ?hg (N := 18) ?hd (xs := ([0, 1, 50, 99, 100, (-1), 101] : List Int)) (inner := [.int .i64 0, .int .i64 1, .int .i64 50, .int .i64 99, .int .i64 100, .int .i64 (-1), .int .i64 101]) (ok := fun _ => True) (okp := fun _ => True) ?hr ?hp (fun _ hk => hk) trivial (Below.refl _ _) (Nat.le_refl _) (by simp) ?_; (case hd => rfl); (case hg => rfl); (case hr => first | (go_simp; done) | (go_simp; rfl)); (case hp => exact (Reps.one (show Kd.M (Kd.int .i64) _ _ _ 0 [.int .i64 0] from rfl) (Reps.one (show Kd.M (Kd.int .i64) _ _ _ 1 [.int .i64 1] from rfl) (Reps.one (show Kd.M (Kd.int .i64) _ _ _ 50 [.int .i64 50] from rfl) (Reps.one (show Kd.M (Kd.int .i64) _ _ _ 99 [.int .i64 99] from rfl) (Reps.one (show Kd.M (Kd.int .i64) _ _ _ 100 [.int .i64 100] from rfl) (Reps.one (show Kd.M (Kd.int .i64) _ _ _ (-1) [.int .i64 (-1)] from rfl) (Reps.one (show Kd.M (Kd.int .i64) _ _ _ 101 [.int .i64 101] from rfl) (Reps.none _ _))))))))); intro Bw B1 Av hb hg_ hnew_; clear hg_ hnew_; (first | rw [← Az.out] at Av | (simp only [Int.reduceToNat] at Av; rw [← Az.out] at Av)); replace Ae := roB Ae hb; replace Ah := roB Ah hb; have Af := aM (Kd.R_lower Av (below_size Z39)); replace HB := aM (below_step Z39 hb); replace HI179 := aM (IsS46.below Z30 hb); clear hb Av) | ((with_reducible refine gate_callee (f := 19) rfl ?_); refine glE (some 20) Tryz.func19 #[.pointer (some ⟨Ab, 0, none⟩), .int .i64 24] ?_; (with_reducible refine (spec_l1Cur_pick.calls Ab l0 Ao Ap 24 Aq Ak Al w _ ?side1 ?side2 A4.out).mono ?_); (case side1 => exact Z30); (case side2 => exact Z39); rintro e B2 ⟨rfl, hi, hb, hk⟩; refine ⟨_, rfl, ?_⟩; replace Ae := aM (Kd.R_mono (Kd.R_keep (IsS46.apart (show IsS46 w _ Ab l0 Ao Ap from Z30) Z28 (by decide)) hk (fun _ h => h.2)) (fun _ h => h.1)); replace Ah := aM (Kd.R_mono (Kd.R_keep (IsS46.apart (show IsS46 w _ Ab l0 Ao Ap from Z30) Z45 (by decide)) hk (fun _ h => h.2)) (fun _ h => h.1)); replace Af := aM (Kd.R_mono (Kd.R_keep (IsS46.apart (show IsS46 w _ Ab l0 Ao Ap from Z30) Z71 (by decide)) hk (fun _ h => h.2)) (fun _ h => h.1)); replace HB := aM (hb); replace HI179 := aM (hi); (try clear hb); (try clear hk); (try clear hi); obtain ⟨Bc, Ay, Bl⟩ := Kd.R_slice Af.out; subst Bl; have Bm : ((ji5) : Int) ≤ ((Ac.length : Int) : Int) := of_decide_eq_true Z6; obtain ⟨i015, hi015, _, hsz15, _⟩ := info_parts info3; have hroom15 : Ac.length ≤ Ay := (Kd.R_reads' Af.out).2.1; have hC15 : Kd.C (Kd.int .i64) _ Bc Ac.length Ac := (Kd.R_reads' Af.out).2.2; have hcut15 := cut_to (P := Tryz.prog) 31 3 .i64 Tryz.underlying31 hi015 Bc Ac.length Ay (ji5) (of_decide_eq_true Z6) Bm hroom15; have Bd := Kd.C_take (m := ((ji5) : Int).toNat) hC15 (by omega); have Bf : Au.length = ((ji5) : Int).toNat := (by rw [Ba.out, List.length_take]; omega); rw [← Ba.out] at Bd; rw [← Bf] at hcut15; have Bb := Aside0.mk Bd; have Bi := aM (show Au.length ≤ Ay from by omega); clear Bd hC15 hroom15 hi015 hsz15; have KY15 := Aside0.mk Bf; clear Bf; have KL15 := aM (show ((ji5) : Int).toNat ≤ Ac.length from by omega); replace Bm := eq_true Bm) | ((with_reducible refine gate_callee (f := 18) rfl ?_); refine glE (some 24) Tryz.func18 #[.pointer (some ⟨Ab, 0, none⟩), .slice Bc Au.length Ay] ?_; (with_reducible refine (spec_l1Cur_among.calls Ab l0 Ak Al _ _ Au Bh Bj Bk w _ ?side1 ?side2 ?side3 ?side4 ?side5 A8.out).mono ?_); (case side1 => exact Z30); (case side2 => exact Z39); (case side3 => repeat (first | exact (by repeat (first | (with_reducible exact Bb.out) | (with_reducible refine Kd.C_alloc ?_ _) | (with_reducible refine Kd.C_drewN ?_ _) | (with_reducible refine Kd.C_drew ?_) | exact Bb.out)) | (with_reducible refine Kd.C_alloc ?_ _) | (with_reducible refine Kd.C_drewN ?_ _) | (with_reducible refine Kd.C_drew ?_))); (case side4 => exact Bi.out); (case side5 => exact fun ad e_ _ h_ => IsS46.own_ne HI179.out Af.out (by decide) (by subst h_; subst e_; rfl)); rintro e B3 ⟨rfl, hi, hb, hk⟩; refine ⟨_, rfl, ?_⟩; replace Ae := aM (Kd.R_mono (Kd.R_keep (IsS46.apart (show IsS46 w _ Ab l0 Ak Al from Z30) Z28 (by decide)) hk (fun _ h => h.2)) (fun _ h => h.1)); replace Ah := aM (Kd.R_mono (Kd.R_keep (IsS46.apart (show IsS46 w _ Ab l0 Ak Al from Z30) Z45 (by decide)) hk (fun _ h => h.2)) (fun _ h => h.1)); replace Af := aM (Kd.R_mono (Kd.R_keep (IsS46.apart (show IsS46 w _ Ab l0 Ak Al from Z30) Z71 (by decide)) hk (fun _ h => h.2)) (fun _ h => h.1)); replace HB := aM (hb); replace HI179 := aM (hi); (try clear hb); (try clear hk); (try clear hi)))
   go_ret3
   exact ⟨_, _, by first | rfl | (simp [errW_none, errW_some] <;> rfl) | (simp only [← hji5]; first | rfl | (simp [errW_none, errW_some] <;> rfl)) | (simp [*, errW_none, errW_some] <;> rfl), Z94, Z95, Z39⟩
  ·rw [if_neg c7] at H
   exact absurd H (by simp)
 ·rw [if_neg c6] at H
  exact absurd H (by simp)
def impl_in.f (a0 : Int) (a1 : Int) (a2 : Int) : Option (Bool) := if a0 ≥ a1 then (some (decide (a0 ≤ a2))) else (some false)
theorem impl_in.calls (a0 : Int) (a1 : Int) (a2 : Int) (r : Bool) (w : World) (h : impl_in.f a0 a1 a2 = some r) :
  Calls Tryz.prog 20 #[.int .i64 a0, .int .i64 a1, .int .i64 a2] w fun e w' => e = .returned (.bool r) ∧ Drawn0 w w' := by
 have H : (if a0 ≥ a1 then (some (decide (a0 ≤ a2))) else (some false)) = some r := h; clear h
 by_cases c4 : a0 ≥ a1
 ·rw [if_pos c4] at H
  have c4b0 : decide (a1 ≤ a0) = true := decide_eq_true c4; clear c4; obtain rfl := Option.some.inj H
  go_enter Tryz.func20, Tryz.ntmps20
  go_wp2
  go_ret
  exact ⟨Z12, Z37⟩
 ·rw [if_neg c4] at H
  have c4b0 : decide (a1 ≤ a0) = false := decide_eq_false c4; clear c4; obtain rfl := Option.some.inj H
  go_enter Tryz.func20, Tryz.ntmps20
  go_wp2
  go_ret
  exact ⟨Z12, Z37⟩
theorem impl_in.eq (a b c : Int) : impl_in.f a b c = some (rng a b c) := by
 unfold impl_in.f rng; by_cases h : b ≤ a <;> simp [h]
def lays_strings_Trim_ren : Go.Shelf.Ren := ⟨fun | 160 => 53 | 232 => 75 | 231 => 74 | 227 => 76 | 234 => 78 | 233 => 77 | 236 => 80 | 235 => 79 | 228 => 91 | 271 => 94 | 151 => 93 | 197 => 92 | 120 => 102 | 152 => 101 | 260 => 100 | 137 => 107 | 119 => 108 | 224 => 109 | 225 => 110 | 217 => 115 | 266 => 118 | n => n, fun | 9 => 9 | 4 => 4 | 3 => 3 | 5 => 5 | 117 => 101 | 116 => 100 | 0 => 0 | 124 => 104 | 21 => 21 | 105 => 113 | 46 => 75 | 119 => 129 | 139 => 132 | 138 => 131 | n => n, fun | 3 => 1 | 4 => 2 | n => n⟩
theorem lays_strings_Trim : Go.Proofs.Lays.n160 Tryz.prog lays_strings_Trim_ren := {
 mixed := by kernel_rfl
 f119 := Tryz.func108.trans (congrArg some Z21)
 f120 := Tryz.func102.trans (congrArg some Z21)
 f137 := Tryz.func107.trans (congrArg some Z21)
 f151 := Tryz.func93.trans (congrArg some Z21)
 f152 := Tryz.func101.trans (congrArg some Z21)
 f160 := Tryz.func53.trans (congrArg some Z21)
 f197 := Tryz.func92.trans (congrArg some Z21)
 f217 := Tryz.func115.trans (congrArg some Z21)
 f224 := Tryz.func109.trans (congrArg some Z21)
 f225 := Tryz.func110.trans (congrArg some Z21)
 f227 := Tryz.func76.trans (congrArg some Z21)
 f228 := Tryz.func91.trans (congrArg some Z21)
 f231 := Tryz.func74.trans (congrArg some Z21)
 f232 := Tryz.func75.trans (congrArg some Z21)
 f233 := Tryz.func77.trans (congrArg some Z21)
 f234 := Tryz.func78.trans (congrArg some Z21)
 f235 := Tryz.func79.trans (congrArg some Z21)
 f236 := Tryz.func80.trans (congrArg some Z21)
 f260 := Tryz.func100.trans (congrArg some Z21)
 f266 := Tryz.func118.trans (congrArg some Z21)
 f271 := Tryz.func94.trans (congrArg some Z21)
 t0 := Tryz.underlying0
 a0 := Tryz.isAgg0
 z0 := Tryz.sizeOf0
 v0 := Tryz.zeroValue0
 t3 := Tryz.underlying3
 a3 := Tryz.isAgg3
 z3 := Tryz.sizeOf3
 v3 := Tryz.zeroValue3
 t4 := Tryz.underlying4
 a4 := Tryz.isAgg4
 z4 := Tryz.sizeOf4
 v4 := Tryz.zeroValue4
 t5 := Tryz.underlying5
 a5 := Tryz.isAgg5
 z5 := Tryz.sizeOf5
 v5 := Tryz.zeroValue5
 t9 := Tryz.underlying9
 a9 := Tryz.isAgg9
 z9 := Tryz.sizeOf9
 v9 := Tryz.zeroValue9
 t21 := Tryz.underlying21
 a21 := Tryz.isAgg21
 z21 := Tryz.sizeOf21
 v21 := Tryz.zeroValue21
 t46 := Tryz.underlying75
 a46 := Tryz.isAgg75
 z46 := Tryz.sizeOf75
 v46 := Tryz.zeroValue75
 t105 := Tryz.underlying113
 a105 := Tryz.isAgg113
 z105 := Tryz.sizeOf113
 v105 := Tryz.zeroValue113
 t116 := Tryz.underlying100
 a116 := Tryz.isAgg100
 z116 := Tryz.sizeOf100
 t117 := Tryz.underlying101
 a117 := Tryz.isAgg101
 z117 := Tryz.sizeOf101
 v117 := Tryz.zeroValue101
 t119 := Tryz.underlying129
 a119 := Tryz.isAgg129
 z119 := Tryz.sizeOf129
 t124 := Tryz.underlying104
 a124 := Tryz.isAgg104
 z124 := Tryz.sizeOf104
 v124 := Tryz.zeroValue104
 t138 := Tryz.underlying131
 a138 := Tryz.isAgg131
 z138 := Tryz.sizeOf131
 v138 := Tryz.zeroValue131
 t139 := Tryz.underlying132
 a139 := Tryz.isAgg132
 z139 := Tryz.sizeOf132
 v139 := Tryz.zeroValue132
 g3 := by kernel_rfl
 g4 := Z21}
theorem dropW_nil (p : UInt8 → Bool) (l : List UInt8) : l.dropWhile p = [] ↔ l.all p = true := by
 induction l with
 | nil => simp
 | cons x t ih =>
  by_cases h : p x = true
  ·simp [List.dropWhile_cons, h, ih]
  ·simp [List.dropWhile_cons, h]
theorem trim_nil (l cs : List UInt8) : Lib.trimS l cs = [] ↔ l.all (cs.contains ·) = true := by
 unfold Lib.trimS Lib.trimLeftS Lib.trimRightS
 rw [dropW_nil]
 constructor
 ·intro h
  have e : l.reverse.all (cs.contains ·) = true := by
   rw [List.all_reverse] at h; rw [← List.takeWhile_append_dropWhile (p := (cs.contains ·)) (l := l.reverse), List.all_append, Bool.and_eq_true]
   exact ⟨List.all_takeWhile, h⟩
  rwa [List.all_reverse] at e
 ·intro h
  have e : l.reverse.dropWhile (cs.contains ·) = [] := (dropW_nil _ _).2 (by rw [List.all_reverse]; exact h); rw [e]
  rfl
theorem cut_has (b : UInt8) : [97, 98, 99, 100, 101, 102, 103, 104, 105, 106, 107, 108, 109, 110, 111, 112, 113, 114, 115, 116, 117, 118, 119, 120, 121, 122].contains b = (decide (97 ≤ b.toNat) && decide (b.toNat ≤ 122)) := by
 have h : ∀ n : Fin 256, ([97, 98, 99, 100, 101, 102, 103, 104, 105, 106, 107, 108, 109, 110, 111, 112, 113, 114, 115, 116, 117, 118, 119, 120, 121, 122] : List UInt8).contains (UInt8.ofNat n.val) = (decide (97 ≤ (UInt8.ofNat n.val).toNat) && decide ((UInt8.ofNat n.val).toNat ≤ 122)) := by decide +kernel
 have e := h ⟨b.toNat, b.toNat_lt⟩
 simpa using e
def isWordB (s : ByteArray) : Bool := rng (s.size : Int) 1 10 && s.data.toList.all fun b => decide (97 ≤ b.toNat) && decide (b.toNat ≤ 122)
def impl_isWord.f (a0 : ByteArray) : Option Bool := some (isWordB a0)
theorem impl_isWord.calls (a0 : ByteArray) (r : Bool) (w : World) (h : impl_isWord.f a0 = some r) :
  Calls Tryz.prog 31 #[.string a0] w fun e w' => e = .returned (.bool r) ∧ Below w.heap.size w w' := by
 obtain rfl := Option.some.inj h; clear h; cases hin : rng (a0.size : Int) 1 10 with
 | false =>
  have e0 : isWordB a0 = false := by unfold isWordB; rw [hin]; rfl
  rw [e0]; have hc := impl_in.calls (a0.size : Int) 1 10 false; have HI := aM (show impl_in.f (a0.size : Int) 1 10 = some false by rw [impl_in.eq, hin]); clear hin e0; have HC := Aside0.mk hc; clear hc
  go_enter Tryz.func31, Tryz.ntmps31
  go_wp2_with fail
  refine (HC.out _ HI.out).mono ?_; rintro e w' ⟨rfl, hd⟩
  go_wp2
  go_ret
  exact ⟨Z102, hd.below⟩
 | true =>
  have hsz := (rng_iff _ _ _).1 hin
  have hcall : ∀ W, Calls Tryz.prog 53 #[.string a0, .string ⟨#[97, 98, 99, 100, 101, 102, 103, 104, 105, 106, 107, 108, 109, 110, 111, 112, 113, 114, 115, 116, 117, 118, 119, 120, 121, 122]⟩] W _ := fun W => Any.strings_Trim_laid lays_strings_Trim Z21 a0 ⟨#[97, 98, 99, 100, 101, 102, 103, 104, 105, 106, 107, 108, 109, 110, 111, 112, 113, 114, 115, 116, 117, 118, 119, 120, 121, 122]⟩ W (by omega) (by decide) (fun j b hb => (show ∀ x ∈ (⟨#[97, 98, 99, 100, 101, 102, 103, 104, 105, 106, 107, 108, 109, 110, 111, 112, 113, 114, 115, 116, 117, 118, 119, 120, 121, 122]⟩ : ByteArray).data.toList, x.toNat < 128 by decide) b (List.mem_of_getElem? hb))
  have hc := impl_in.calls (a0.size : Int) 1 10 true; have HI := aM (show impl_in.f (a0.size : Int) 1 10 = some true by rw [impl_in.eq, hin]); have HIN := Aside0.mk hin; clear hin hsz; have HC := Aside0.mk hc; have HT := Aside0.mk hcall; clear hc hcall
  have hemp : (Lib.trimS a0.data.toList [97, 98, 99, 100, 101, 102, 103, 104, 105, 106, 107, 108, 109, 110, 111, 112, 113, 114, 115, 116, 117, 118, 119, 120, 121, 122] = []) ↔ a0.data.toList.all (fun b => decide (97 ≤ b.toNat) && decide (b.toNat ≤ 122)) = true := by
   rw [trim_nil]
   simp only [cut_has]
  cases hall : a0.data.toList.all (fun b => decide (97 ≤ b.toNat) && decide (b.toNat ≤ 122)) with
  | true =>
   have e0 : isWordB a0 = true := by unfold isWordB; rw [HIN.out, hall]; rfl
   have e1 := aM (hemp.2 hall); rw [e0]; clear e0 hall hemp
   go_enter Tryz.func31, Tryz.ntmps31
   go_wp2_with fail
   refine (HC.out _ HI.out).mono ?_; rintro e w' ⟨rfl, hd⟩; have HD := Aside0.mk hd.below; clear hd
   go_wp2_with fail
   refine (HT.out _).mono ?_; rintro e w2 ⟨rfl, hb⟩
   have e2 : (⟨(Lib.trimS a0.data.toList [97, 98, 99, 100, 101, 102, 103, 104, 105, 106, 107, 108, 109, 110, 111, 112, 113, 114, 115, 116, 117, 118, 119, 120, 121, 122]).toArray⟩ : ByteArray) = ⟨#[]⟩ := by rw [e1.out]
   have e3 : (Value.string ⟨(Lib.trimS a0.data.toList (⟨#[97, 98, 99, 100, 101, 102, 103, 104, 105, 106, 107, 108, 109, 110, 111, 112, 113, 114, 115, 116, 117, 118, 119, 120, 121, 122]⟩ : ByteArray).data.toList).toArray⟩) = .string ⟨#[]⟩ := congrArg Value.string e2; rw [e3]; clear e2 e3
   go_wp2
   go_ret
   exact ⟨Z102, below_step HD.out hb⟩
  | false =>
   have e0 : isWordB a0 = false := by unfold isWordB; rw [HIN.out, hall]; rfl
   rw [e0]; obtain ⟨t, ht⟩ : ∃ t : ByteArray, t = ⟨(Lib.trimS a0.data.toList (⟨#[97, 98, 99, 100, 101, 102, 103, 104, 105, 106, 107, 108, 109, 110, 111, 112, 113, 114, 115, 116, 117, 118, 119, 120, 121, 122]⟩ : ByteArray).data.toList).toArray⟩ := ⟨_, rfl⟩
   have hne : t.data.toList ≠ [] := by
    intro h; rw [ht] at h; have := hemp.1 (by simpa using h); rw [hall] at this; cases this
   have e1 : (t.toList = []) = False := eq_false (by rw [Lib.toList_data]; exact hne)
   have e2 : t.toList.isEmpty = false := by
    cases hq : t.toList with
    | nil => exact absurd hq (by rw [Lib.toList_data]; exact hne)
    | cons _ _ => rfl
   clear e0 hall hemp hne
   go_enter Tryz.func31, Tryz.ntmps31
   go_wp2_with fail
   refine (HC.out _ HI.out).mono ?_; rintro e w' ⟨rfl, hd⟩; have HD := Aside0.mk hd.below; clear hd
   go_wp2_with fail
   refine (HT.out _).mono ?_; rintro e w2 ⟨rfl, hb⟩; rw [← ht]; clear ht
   go_wp2
   go_ret
   exact ⟨by first | rfl | (simp; done) | (simp [e1, e2]; done), below_step HD.out hb⟩
end Go.Proofs.YtfeighajmkcjfaaGreatDoor.H
