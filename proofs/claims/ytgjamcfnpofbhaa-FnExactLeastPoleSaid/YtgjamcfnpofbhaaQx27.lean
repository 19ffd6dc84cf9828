/- Each function below comes to the Lean function beside it (theorems '.calls'); no condition beyond each theorem's own. Written by our program oprint.py over the kit's print. -/
import Derived.Test.YtgjamcfnpofbhaaQx0
import Derived.Test.YtgjamcfnpofbhaaQx1
namespace Go.Proofs.Ytgjamcfnpofbhaa.Q
open Go.RowKit Go.Proofs.YtgjamcfnpofbhaaW.PrintWords Go.Proofs.YtgjamcfnpofbhaaW.PrintLast Go.Proofs.YtgjamcfnpofbhaaW.PrintMore
attribute [local go_sem] max2_int min2_int max_two min_two max_three min_three max_four min_four   -- for this text's walks alone
set_option linter.unusedVariables false
set_option linter.unusedSimpArgs false

/-! ### spec_poTop: function 57 -/
def spec_poTop.f (l0_0 : List Int) (l0_1 : List Int) (a1 : Int) : Option (List Int × List Int) := (spec_l1Own.f l0_0).bind fun t686 => ((spec_l1Own.f l0_1).bind fun t689 => (if (l0_0.length : Int) = 0 then (none) else (if 0 ≤ (Int.tmod (wrap64 (a1 + 1)) (l0_0.length : Int)) then (if (Int.tmod (wrap64 (a1 + 1)) (l0_0.length : Int)) < (l0_0.length : Int) then (if 0 ≤ a1 then (if a1 < (t686.length : Int) then (if a1 < (l0_0.length : Int) then (if (Int.tmod (wrap64 (a1 + 1)) (l0_0.length : Int)) < (t686.length : Int) then ((some ((t686.set (a1 : Int).toNat (rd l0_0 (Int.tmod (wrap64 (a1 + 1)) (l0_0.length : Int)))).set ((Int.tmod (wrap64 (a1 + 1)) (l0_0.length : Int)) : Int).toNat (rd l0_0 a1) : List Int)).bind fun y696 => (if (Int.tmod (wrap64 (a1 + 1)) (l0_0.length : Int)) < (l0_1.length : Int) then (if a1 < (t689.length : Int) then (if a1 < (l0_1.length : Int) then (if (Int.tmod (wrap64 (a1 + 1)) (l0_0.length : Int)) < (t689.length : Int) then ((some ((t689.set (a1 : Int).toNat (rd l0_1 (Int.tmod (wrap64 (a1 + 1)) (l0_0.length : Int)))).set ((Int.tmod (wrap64 (a1 + 1)) (l0_0.length : Int)) : Int).toNat (rd l0_1 a1) : List Int)).bind fun y700 => (if (Int.tmod (wrap64 (a1 + 1)) (l0_0.length : Int)) = 0 then (if 0 < (t689.length : Int) then ((some (y700.set (0 : Int).toNat (wrap64 ((rd y700 0) - 1)) : List Int)).bind fun y702 => (some (y696, (y702.set (a1 : Int).toNat (wrap64 ((rd y702 a1) + 1)))))) else (none)) else (some (y696, y700)))) else (none)) else (none)) else (none)) else (none))) else (none)) else (none)) else (none)) else (none)) else (none)) else (none))))
def spec_poTop.T2 : Bool × List (List Nat × List Nat) := (true, [([], []), ([0], [0]), ([1], [1]), ([], []), ([3], [3]), ([4, 2], [4]), ([2, 5], [2, 5]), ([], []), ([7, 6, 5, 0, 1, 2, 3, 4, 5, 6, 7], [6, 7])])
def spec_poTop.B2 : List Nat := [0, 1, 3, 0, 8, 31, 63, 0, 255]
theorem spec_poTop.tab2 : rtab .any (opsOf Try.f57 2) = spec_poTop.T2 := by kernel_rfl
theorem spec_poTop.bits2 : waitsOk spec_poTop.T2.2 spec_poTop.B2 = true := by kernel_rfl
def spec_poTop.T4 : Bool × List (List Nat × List Nat) := (true, [([], []), ([0], [0]), ([], []), ([], []), ([3], [3]), ([], []), ([4, 5], [4, 5]), ([6], [6]), ([1, 2, 0, 1, 2, 3, 4, 5, 6, 7], [1, 2]), ([8, 7, 0, 1, 2, 3, 4, 5, 6, 7], [7, 8])])
def spec_poTop.B4 : List Nat := [0, 1, 0, 0, 8, 0, 56, 120, 255, 511]
theorem spec_poTop.tab4 : rtab .any (opsOf Try.f57 4) = spec_poTop.T4 := by kernel_rfl
theorem spec_poTop.bits4 : waitsOk spec_poTop.T4.2 spec_poTop.B4 = true := by kernel_rfl
def spec_poTop.T5 : Bool × List (List Nat × List Nat) := (true, [([], []), ([0], [0]), ([], []), ([], []), ([3], [3]), ([], []), ([4, 5], [4, 5]), ([6], [6]), ([1, 2, 0, 1, 2, 3, 4, 5, 6, 7], [1, 2]), ([8, 7, 0, 1, 2, 3, 4, 5, 6, 7], [7, 8])])
def spec_poTop.B5 : List Nat := [0, 1, 0, 0, 8, 0, 56, 120, 255, 511]
theorem spec_poTop.tab5 : rtab .any (opsOf Try.f57 5) = spec_poTop.T5 := by kernel_rfl
theorem spec_poTop.bits5 : waitsOk spec_poTop.T5.2 spec_poTop.B5 = true := by kernel_rfl
def spec_poTop.T6 : Bool × List (List Nat × List Nat) := (true, [([], []), ([0], [0]), ([], []), ([], []), ([3], [3]), ([], []), ([4, 5], [4, 5]), ([6], [6]), ([1, 2, 0, 1, 2, 3, 4, 5, 6, 7], [1, 2]), ([8, 7, 0, 1, 2, 3, 4, 5, 6, 7], [7, 8])])
def spec_poTop.B6 : List Nat := [0, 1, 0, 0, 8, 0, 56, 120, 255, 511]
theorem spec_poTop.tab6 : rtab .any (opsOf Try.f57 6) = spec_poTop.T6 := by kernel_rfl
theorem spec_poTop.bits6 : waitsOk spec_poTop.T6.2 spec_poTop.B6 = true := by kernel_rfl
def spec_poTop.T7 : Bool × List (List Nat × List Nat) := (true, [([], []), ([0], [0]), ([], []), ([], []), ([3], [3]), ([], []), ([4, 5], [4, 5]), ([6], [6]), ([1, 2, 0, 1, 2, 3, 4, 5, 6, 7], [1, 2]), ([8, 7, 0, 1, 2, 3, 4, 5, 6, 7], [7, 8])])
def spec_poTop.B7 : List Nat := [0, 1, 0, 0, 8, 0, 56, 120, 255, 511]
theorem spec_poTop.tab7 : rtab .any (opsOf Try.f57 7) = spec_poTop.T7 := by kernel_rfl
theorem spec_poTop.bits7 : waitsOk spec_poTop.T7.2 spec_poTop.B7 = true := by kernel_rfl
set_option maxHeartbeats 8000000 in
set_option maxRecDepth 100000 in
theorem spec_poTop.calls (A0_0 : Option Addr) (c0_0 : Nat) (l0_0 : List Int) (A0_1 : Option Addr) (c0_1 : Nat) (l0_1 : List Int) (a1 : Int) (r1 : List Int) (r2 : List Int) (w : World) (hr0_0 : Kd.C (Kd.int .i64) w A0_0 l0_0.length l0_0) (hc0_0 : l0_0.length ≤ c0_0) (hr0_1 : Kd.C (Kd.int .i64) w A0_1 l0_1.length l0_1) (hc0_1 : l0_1.length ≤ c0_1) (h : spec_poTop.f l0_0 l0_1 a1 = some (r1, r2)) :
  Calls Try.prog 57 #[.agg #[.slice A0_0 l0_0.length c0_0, .slice A0_1 l0_1.length c0_1], .int .i64 a1] w fun e w' => ∃ v0_ v1_ : Value, e = .returned (.agg #[v0_, v1_]) ∧ Kd.R (Kd.int .i64) 3 w' w.heap.size (fun k_ => some k_ ≠ (v1_ : Value).ownBlock) v0_ r1 ∧ Kd.R (Kd.int .i64) 3 w' w.heap.size (fun k_ => some k_ ≠ (v0_ : Value).ownBlock) v1_ r2 ∧ Below w.heap.size w w' := by
 have hu36 := Try.underlying36
 have HR0_0 := Aside0.mk hr0_0
 have HC0_0 := Aside0.mk hc0_0
 clear hr0_0 hc0_0
 have HR0_1 := Aside0.mk hr0_1
 have HC0_1 := Aside0.mk hc0_1
 clear hr0_1 hc0_1
 have HB := Aside0.mk (Below.refl w.heap.size w)
 have H : ((spec_l1Own.f l0_0).bind fun t686 => ((spec_l1Own.f l0_1).bind fun t689 => (if (l0_0.length : Int) = 0 then (none) else (if 0 ≤ (Int.tmod (wrap64 (a1 + 1)) (l0_0.length : Int)) then (if (Int.tmod (wrap64 (a1 + 1)) (l0_0.length : Int)) < (l0_0.length : Int) then (if 0 ≤ a1 then (if a1 < (t686.length : Int) then (if a1 < (l0_0.length : Int) then (if (Int.tmod (wrap64 (a1 + 1)) (l0_0.length : Int)) < (t686.length : Int) then ((some ((t686.set (a1 : Int).toNat (rd l0_0 (Int.tmod (wrap64 (a1 + 1)) (l0_0.length : Int)))).set ((Int.tmod (wrap64 (a1 + 1)) (l0_0.length : Int)) : Int).toNat (rd l0_0 a1) : List Int)).bind fun y696 => (if (Int.tmod (wrap64 (a1 + 1)) (l0_0.length : Int)) < (l0_1.length : Int) then (if a1 < (t689.length : Int) then (if a1 < (l0_1.length : Int) then (if (Int.tmod (wrap64 (a1 + 1)) (l0_0.length : Int)) < (t689.length : Int) then ((some ((t689.set (a1 : Int).toNat (rd l0_1 (Int.tmod (wrap64 (a1 + 1)) (l0_0.length : Int)))).set ((Int.tmod (wrap64 (a1 + 1)) (l0_0.length : Int)) : Int).toNat (rd l0_1 a1) : List Int)).bind fun y700 => (if (Int.tmod (wrap64 (a1 + 1)) (l0_0.length : Int)) = 0 then (if 0 < (t689.length : Int) then ((some (y700.set (0 : Int).toNat (wrap64 ((rd y700 0) - 1)) : List Int)).bind fun y702 => (some (y696, (y702.set (a1 : Int).toNat (wrap64 ((rd y702 a1) + 1)))))) else (none)) else (some (y696, y700)))) else (none)) else (none)) else (none)) else (none))) else (none)) else (none)) else (none)) else (none)) else (none)) else (none))))) = some (r1, r2) := h
 clear h
 replace H := Option.bind_eq_some_iff.mp H
 obtain ⟨t686, A30, H⟩ := H
 replace H : ((spec_l1Own.f l0_1).bind fun t689 => (if (l0_0.length : Int) = 0 then (none) else (if 0 ≤ (Int.tmod (wrap64 (a1 + 1)) (l0_0.length : Int)) then (if (Int.tmod (wrap64 (a1 + 1)) (l0_0.length : Int)) < (l0_0.length : Int) then (if 0 ≤ a1 then (if a1 < (t686.length : Int) then (if a1 < (l0_0.length : Int) then (if (Int.tmod (wrap64 (a1 + 1)) (l0_0.length : Int)) < (t686.length : Int) then ((some ((t686.set (a1 : Int).toNat (rd l0_0 (Int.tmod (wrap64 (a1 + 1)) (l0_0.length : Int)))).set ((Int.tmod (wrap64 (a1 + 1)) (l0_0.length : Int)) : Int).toNat (rd l0_0 a1) : List Int)).bind fun y696 => (if (Int.tmod (wrap64 (a1 + 1)) (l0_0.length : Int)) < (l0_1.length : Int) then (if a1 < (t689.length : Int) then (if a1 < (l0_1.length : Int) then (if (Int.tmod (wrap64 (a1 + 1)) (l0_0.length : Int)) < (t689.length : Int) then ((some ((t689.set (a1 : Int).toNat (rd l0_1 (Int.tmod (wrap64 (a1 + 1)) (l0_0.length : Int)))).set ((Int.tmod (wrap64 (a1 + 1)) (l0_0.length : Int)) : Int).toNat (rd l0_1 a1) : List Int)).bind fun y700 => (if (Int.tmod (wrap64 (a1 + 1)) (l0_0.length : Int)) = 0 then (if 0 < (t689.length : Int) then ((some (y700.set (0 : Int).toNat (wrap64 ((rd y700 0) - 1)) : List Int)).bind fun y702 => (some (y696, (y702.set (a1 : Int).toNat (wrap64 ((rd y702 a1) + 1)))))) else (none)) else (some (y696, y700)))) else (none)) else (none)) else (none)) else (none))) else (none)) else (none)) else (none)) else (none)) else (none)) else (none)))) = some (r1, r2) := H
 have A3 := Aside0.mk A30
 clear A30
 replace H := Option.bind_eq_some_iff.mp H
 obtain ⟨t689, A40, H⟩ := H
 replace H : (if (l0_0.length : Int) = 0 then (none) else (if 0 ≤ (Int.tmod (wrap64 (a1 + 1)) (l0_0.length : Int)) then (if (Int.tmod (wrap64 (a1 + 1)) (l0_0.length : Int)) < (l0_0.length : Int) then (if 0 ≤ a1 then (if a1 < (t686.length : Int) then (if a1 < (l0_0.length : Int) then (if (Int.tmod (wrap64 (a1 + 1)) (l0_0.length : Int)) < (t686.length : Int) then ((some ((t686.set (a1 : Int).toNat (rd l0_0 (Int.tmod (wrap64 (a1 + 1)) (l0_0.length : Int)))).set ((Int.tmod (wrap64 (a1 + 1)) (l0_0.length : Int)) : Int).toNat (rd l0_0 a1) : List Int)).bind fun y696 => (if (Int.tmod (wrap64 (a1 + 1)) (l0_0.length : Int)) < (l0_1.length : Int) then (if a1 < (t689.length : Int) then (if a1 < (l0_1.length : Int) then (if (Int.tmod (wrap64 (a1 + 1)) (l0_0.length : Int)) < (t689.length : Int) then ((some ((t689.set (a1 : Int).toNat (rd l0_1 (Int.tmod (wrap64 (a1 + 1)) (l0_0.length : Int)))).set ((Int.tmod (wrap64 (a1 + 1)) (l0_0.length : Int)) : Int).toNat (rd l0_1 a1) : List Int)).bind fun y700 => (if (Int.tmod (wrap64 (a1 + 1)) (l0_0.length : Int)) = 0 then (if 0 < (t689.length : Int) then ((some (y700.set (0 : Int).toNat (wrap64 ((rd y700 0) - 1)) : List Int)).bind fun y702 => (some (y696, (y702.set (a1 : Int).toNat (wrap64 ((rd y702 a1) + 1)))))) else (none)) else (some (y696, y700)))) else (none)) else (none)) else (none)) else (none))) else (none)) else (none)) else (none)) else (none)) else (none)) else (none))) = some (r1, r2) := H
 have A4 := Aside0.mk A40
 clear A40
 by_cases c5 : (l0_0.length : Int) = 0
 ·
  rw [if_pos c5] at H
  exact absurd H (by simp)
 ·
  rw [if_neg c5] at H
  have c5b0 : ((l0_0.length : Int) == 0) = false := beq_eq_false_iff_ne.mpr c5
  have c5b1 : ((l0_0.length : Int) != 0) = true := bne_iff_ne.mpr c5
  have c5b2 : ¬ (l0_0 = []) := fun h_ => c5 (by rw [h_]; rfl)
  obtain ⟨ji6, hji6⟩ : ∃ j_ : Int, (Int.tmod (wrap64 (a1 + 1)) (l0_0.length : Int)) = j_ := ⟨_, rfl⟩
  replace H : (if 0 ≤ (ji6) then (if (ji6) < (l0_0.length : Int) then (if 0 ≤ a1 then (if a1 < (t686.length : Int) then (if a1 < (l0_0.length : Int) then (if (ji6) < (t686.length : Int) then ((some ((t686.set (a1 : Int).toNat (rd l0_0 (ji6))).set ((ji6) : Int).toNat (rd l0_0 a1) : List Int)).bind fun y696 => (if (ji6) < (l0_1.length : Int) then (if a1 < (t689.length : Int) then (if a1 < (l0_1.length : Int) then (if (ji6) < (t689.length : Int) then ((some ((t689.set (a1 : Int).toNat (rd l0_1 (ji6))).set ((ji6) : Int).toNat (rd l0_1 a1) : List Int)).bind fun y700 => (if (ji6) = 0 then (if 0 < (t689.length : Int) then ((some (y700.set (0 : Int).toNat (wrap64 ((rd y700 0) - 1)) : List Int)).bind fun y702 => (some (y696, (y702.set (a1 : Int).toNat (wrap64 ((rd y702 a1) + 1)))))) else (none)) else (some (y696, y700)))) else (none)) else (none)) else (none)) else (none))) else (none)) else (none)) else (none)) else (none)) else (none)) else (none)) = some (r1, r2) := by first | (rw [hji6] at H; exact H) | (simp only [hji6] at H ⊢; exact H)
  (try rw [hji6] at A3)
  (try rw [hji6] at A4)
  by_cases c7 : 0 ≤ (ji6)
  ·
   rw [if_pos c7] at H
   have c7b0 : decide (0 ≤ (ji6)) = true := decide_eq_true c7
   clear c7
   by_cases c8 : (ji6) < (l0_0.length : Int)
   ·
    rw [if_pos c8] at H
    have c8b0 : decide ((ji6) < (l0_0.length : Int)) = true := decide_eq_true c8
    clear c8
    by_cases c9 : 0 ≤ a1
    ·
     rw [if_pos c9] at H
     have c9b0 : decide (0 ≤ a1) = true := decide_eq_true c9
     clear c9
     by_cases c10 : a1 < (t686.length : Int)
     ·
      rw [if_pos c10] at H
      have c10b0 : decide (a1 < (t686.length : Int)) = true := decide_eq_true c10
      clear c10
      obtain ⟨y694, hy694⟩ : ∃ y_ : List Int, y_ = (t686.set (a1 : Int).toNat (rd l0_0 (ji6))) := ⟨_, rfl⟩
      replace H : (if a1 < (l0_0.length : Int) then (if (ji6) < (t686.length : Int) then ((some (y694.set ((ji6) : Int).toNat (rd l0_0 a1) : List Int)).bind fun y696 => (if (ji6) < (l0_1.length : Int) then (if a1 < (t689.length : Int) then (if a1 < (l0_1.length : Int) then (if (ji6) < (t689.length : Int) then ((some ((t689.set (a1 : Int).toNat (rd l0_1 (ji6))).set ((ji6) : Int).toNat (rd l0_1 a1) : List Int)).bind fun y700 => (if (ji6) = 0 then (if 0 < (t689.length : Int) then ((some (y700.set (0 : Int).toNat (wrap64 ((rd y700 0) - 1)) : List Int)).bind fun y702 => (some (y696, (y702.set (a1 : Int).toNat (wrap64 ((rd y702 a1) + 1)))))) else (none)) else (some (y696, y700)))) else (none)) else (none)) else (none)) else (none))) else (none)) else (none)) = some (r1, r2) := by first | (rw [hy694]; with_reducible exact H) | (have H2_ := (Option.bind_some _ _).symm.trans H; rw [hy694]; with_reducible exact H2_) | (have H2_ := (Option.bind_some _ _).symm.trans H; with_reducible exact H2_) | with_reducible exact H | (rw [hy694]; exact H) | exact H
      have Ny694 := Aside0.mk hy694
      clear hy694
      by_cases c12 : a1 < (l0_0.length : Int)
      ·
       rw [if_pos c12] at H
       have c12b0 : decide (a1 < (l0_0.length : Int)) = true := decide_eq_true c12
       clear c12
       by_cases c13 : (ji6) < (t686.length : Int)
       ·
        rw [if_pos c13] at H
        have c13b0 : decide ((ji6) < (t686.length : Int)) = true := decide_eq_true c13
        clear c13
        obtain ⟨y696, hy696⟩ : ∃ y_ : List Int, y_ = (y694.set ((ji6) : Int).toNat (rd l0_0 a1)) := ⟨_, rfl⟩
        replace H : (if (ji6) < (l0_1.length : Int) then (if a1 < (t689.length : Int) then (if a1 < (l0_1.length : Int) then (if (ji6) < (t689.length : Int) then ((some ((t689.set (a1 : Int).toNat (rd l0_1 (ji6))).set ((ji6) : Int).toNat (rd l0_1 a1) : List Int)).bind fun y700 => (if (ji6) = 0 then (if 0 < (t689.length : Int) then ((some (y700.set (0 : Int).toNat (wrap64 ((rd y700 0) - 1)) : List Int)).bind fun y702 => (some (y696, (y702.set (a1 : Int).toNat (wrap64 ((rd y702 a1) + 1)))))) else (none)) else (some (y696, y700)))) else (none)) else (none)) else (none)) else (none)) = some (r1, r2) := by first | (rw [hy696]; with_reducible exact H) | (have H2_ := (Option.bind_some _ _).symm.trans H; rw [hy696]; with_reducible exact H2_) | (have H2_ := (Option.bind_some _ _).symm.trans H; with_reducible exact H2_) | with_reducible exact H | (rw [hy696]; exact H) | exact H
        have Ny696 := Aside0.mk hy696
        clear hy696
        by_cases c15 : (ji6) < (l0_1.length : Int)
        ·
         rw [if_pos c15] at H
         have c15b0 : decide ((ji6) < (l0_1.length : Int)) = true := decide_eq_true c15
         clear c15
         by_cases c16 : a1 < (t689.length : Int)
         ·
          rw [if_pos c16] at H
          have c16b0 : decide (a1 < (t689.length : Int)) = true := decide_eq_true c16
          clear c16
          obtain ⟨y698, hy698⟩ : ∃ y_ : List Int, y_ = (t689.set (a1 : Int).toNat (rd l0_1 (ji6))) := ⟨_, rfl⟩
          replace H : (if a1 < (l0_1.length : Int) then (if (ji6) < (t689.length : Int) then ((some (y698.set ((ji6) : Int).toNat (rd l0_1 a1) : List Int)).bind fun y700 => (if (ji6) = 0 then (if 0 < (t689.length : Int) then ((some (y700.set (0 : Int).toNat (wrap64 ((rd y700 0) - 1)) : List Int)).bind fun y702 => (some (y696, (y702.set (a1 : Int).toNat (wrap64 ((rd y702 a1) + 1)))))) else (none)) else (some (y696, y700)))) else (none)) else (none)) = some (r1, r2) := by first | (rw [hy698]; with_reducible exact H) | (have H2_ := (Option.bind_some _ _).symm.trans H; rw [hy698]; with_reducible exact H2_) | (have H2_ := (Option.bind_some _ _).symm.trans H; with_reducible exact H2_) | with_reducible exact H | (rw [hy698]; exact H) | exact H
          have Ny698 := Aside0.mk hy698
          clear hy698
          by_cases c18 : a1 < (l0_1.length : Int)
          ·
           rw [if_pos c18] at H
           have c18b0 : decide (a1 < (l0_1.length : Int)) = true := decide_eq_true c18
           clear c18
           by_cases c19 : (ji6) < (t689.length : Int)
           ·
            rw [if_pos c19] at H
            have c19b0 : decide ((ji6) < (t689.length : Int)) = true := decide_eq_true c19
            clear c19
            obtain ⟨y700, hy700⟩ : ∃ y_ : List Int, y_ = (y698.set ((ji6) : Int).toNat (rd l0_1 a1)) := ⟨_, rfl⟩
            replace H : (if (ji6) = 0 then (if 0 < (t689.length : Int) then ((some (y700.set (0 : Int).toNat (wrap64 ((rd y700 0) - 1)) : List Int)).bind fun y702 => (some (y696, (y702.set (a1 : Int).toNat (wrap64 ((rd y702 a1) + 1)))))) else (none)) else (some (y696, y700))) = some (r1, r2) := by first | (rw [hy700]; with_reducible exact H) | (have H2_ := (Option.bind_some _ _).symm.trans H; rw [hy700]; with_reducible exact H2_) | (have H2_ := (Option.bind_some _ _).symm.trans H; with_reducible exact H2_) | with_reducible exact H | (rw [hy700]; exact H) | exact H
            have Ny700 := Aside0.mk hy700
            clear hy700
            by_cases c21 : (ji6) = 0
            ·
             rw [if_pos c21] at H
             have c21b0 : ((ji6) == 0) = true := beq_iff_eq.mpr c21
             have c21b1 : ((ji6) != 0) = false := bne_eq_false_iff_eq.mpr c21
             clear c21
             by_cases c22 : 0 < (t689.length : Int)
             ·
              rw [if_pos c22] at H
              have c22b0 : decide (0 < (t689.length : Int)) = true := decide_eq_true c22
              have c22b1 : decide (0 < t689.length) = true := decide_eq_true (by omega)
              clear c22
              obtain ⟨y702, hy702⟩ : ∃ y_ : List Int, y_ = (y700.set (0 : Int).toNat (wrap64 ((rd y700 0) - 1))) := ⟨_, rfl⟩
              replace H : (some (y696, (y702.set (a1 : Int).toNat (wrap64 ((rd y702 a1) + 1))))) = some (r1, r2) := by first | (rw [hy702]; with_reducible exact H) | (have H2_ := (Option.bind_some _ _).symm.trans H; rw [hy702]; with_reducible exact H2_) | (have H2_ := (Option.bind_some _ _).symm.trans H; with_reducible exact H2_) | with_reducible exact H | (rw [hy702]; exact H) | exact H
              have Ny702 := Aside0.mk hy702
              clear hy702
              obtain ⟨y704, hy704⟩ : ∃ y_ : List Int, y_ = (y702.set (a1 : Int).toNat (wrap64 ((rd y702 a1) + 1))) := ⟨_, rfl⟩
              replace H : (some (y696, y704)) = some (r1, r2) := by first | (rw [hy704]; with_reducible exact H) | (have H2_ := (Option.bind_some _ _).symm.trans H; rw [hy704]; with_reducible exact H2_) | (have H2_ := (Option.bind_some _ _).symm.trans H; with_reducible exact H2_) | with_reducible exact H | (rw [hy704]; exact H) | exact H
              have Ny704 := Aside0.mk hy704
              clear hy704
              simp only [Option.some.injEq, Prod.mk.injEq] at H
              obtain ⟨rfl, rfl⟩ := H
              go_enter Try.func57, Try.ntmps57
              try go_wp2_with (first | ((with_reducible refine gate_dst (N := 2) rfl ?_); refine box_event ?hg (N := 2) ?hd (cs := #[.slice A0_0 l0_0.length c0_0, .slice A0_1 l0_1.length c0_1]) (t := 36) ?hr ?_; (case hd => rfl); (case hg => rfl); (case hr => first | (go_simp; done) | (go_simp; rfl)); intro gb684 hg w25 hbox hb; have n0_ := Aside0.mk (below_step (by repeat (first | (with_reducible first | exact HB.out | apply below_alloc | apply pw_below_drewN | apply below_drew1) | exact HB.out)) hb); have n1_ := Aside0.mk (hbox); have n2_ := Aside0.mk ((by rw [hg]; exact (below_size (by repeat (first | (with_reducible first | exact HB.out | apply below_alloc | apply pw_below_drewN | apply below_drew1) | exact HB.out))) : w.heap.size ≤ gb684)); have n3_ := Aside0.mk ((by rw [hg]; exact (below_size (by repeat (first | (with_reducible first | exact HB.out | apply below_alloc | apply pw_below_drewN | apply below_drew1) | exact HB.out))) : w.heap.size ≤ gb684)); clear HB; have HB := n0_; have BK684 := n1_; have GW684 := n2_; have GE684 := n3_; clear n0_ n1_ n2_ n3_; clear hb hbox hg) | ((with_reducible refine gate_dst (N := 4) rfl ?_); refine box_event ?hg (N := 4) ?hd (cs := #[.slice none 0 0, .slice none 0 0]) (t := 36) ?hr ?_; (case hd => rfl); (case hg => rfl); (case hr => first | (go_simp; done) | (go_simp; rfl)); intro gb685 hg w26 hbox hb; have n0_ := Aside0.mk (blk_below (g := gb684) (o := .cells #[.slice A0_0 l0_0.length c0_0, .slice A0_1 l0_1.length c0_1] 36 (0, 0)) (by (with_reducible repeat (first | refine blk_drewN ?_ _ | refine blk_drew ?_ | refine blk_alloc ?_ _)); exact BK684.out) hb); have n1_ := Aside0.mk (below_step (by repeat (first | (with_reducible first | exact HB.out | apply below_alloc | apply pw_below_drewN | apply below_drew1 | refine below_set ?_ GE684.out) | exact HB.out)) hb); have n2_ := Aside0.mk (hbox); have n3_ := Aside0.mk ((by rw [hg]; exact (below_size (by repeat (first | (with_reducible first | exact HB.out | apply below_alloc | apply pw_below_drewN | apply below_drew1 | refine below_set ?_ GE684.out) | exact HB.out))) : w.heap.size ≤ gb685)); have n4_ := Aside0.mk ((by rw [hg]; exact (below_size (by repeat (first | (with_reducible first | exact HB.out | apply below_alloc | apply pw_below_drewN | apply below_drew1 | refine below_set ?_ GE684.out) | exact HB.out))) : w.heap.size ≤ gb685)); have n5_ := Aside0.mk ((by rw [hg]; exact Nat.ne_of_lt (blk_lt (g := gb684) (o := .cells #[.slice A0_0 l0_0.length c0_0, .slice A0_1 l0_1.length c0_1] 36 (0, 0)) (by (with_reducible repeat (first | refine blk_drewN ?_ _ | refine blk_drew ?_ | refine blk_alloc ?_ _)); exact BK684.out)) : gb684 ≠ gb685)); have n6_ := Aside0.mk ((by rw [hg]; exact Nat.ne_of_gt (blk_lt (g := gb684) (o := .cells #[.slice A0_0 l0_0.length c0_0, .slice A0_1 l0_1.length c0_1] 36 (0, 0)) (by (with_reducible repeat (first | refine blk_drewN ?_ _ | refine blk_drew ?_ | refine blk_alloc ?_ _)); exact BK684.out)) : gb685 ≠ gb684)); clear BK684; clear HB; have BK684 := n0_; have HB := n1_; have BK685 := n2_; have GW685 := n3_; have GE685 := n4_; have NB684_685 := n5_; have NB685_684 := n6_; clear n0_ n1_ n2_ n3_ n4_ n5_ n6_; clear hb hbox hg; have hnb27 := NB684_685.out; have hnc27 := NB685_684.out; have hcz28_0 : w26.cell? ⟨gb684, 0, none⟩ = some (.slice A0_0 l0_0.length c0_0) := (blk_cell BK684.out 0).trans rfl; have hcz28_1 : w26.cell? ⟨gb684, 1, none⟩ = some (.slice A0_1 l0_1.length c0_1) := (blk_cell BK684.out 1).trans rfl; have hfz28_0 := blk_frozen BK684.out 0; have hfz28_1 := blk_frozen BK684.out 1))
              have n0_ := Aside0.mk (blk_drew BK684.out)
              have n1_ := Aside0.mk (blk_drew BK685.out)
              have n2_ := Aside0.mk (below_drew1 HB.out)
              clear BK684
              clear BK685
              clear HB
              have BK684 := n0_
              have BK685 := n1_
              have HB := n2_
              clear n0_ n1_ n2_
              refine start_ (n := 9) (S := fun w' => w'.cell? ⟨gb684, 0, none⟩ = some (.slice A0_0 l0_0.length c0_0) ∧ w'.cell? ⟨gb684, 1, none⟩ = some (.slice A0_1 l0_1.length c0_1)) (ds := []) #[false, false, false, false, false, false, false, false, false] (by kernel_rfl) rfl rfl ⟨(blk_cell BK684.out 0).trans rfl, (blk_cell BK684.out 1).trans rfl⟩ (fun hHeld => ?_); refine with_tabW spec_poTop.tab2 spec_poTop.bits2 (fun HT_ HW_ => ?_)
              generalize w26.drew = w29 at BK684 BK685 HB hHeld ⊢
              refine pure_ (i := 0) (N := some 11) (v := ?_) (a' := ?_) #[true, false, false, false, false, false, false, false, false] rfl rfl (any_of HT_.out (by kernel_rfl)) (fun _ _ _ h => h) (Or.inl ⟨by rfl, ?_⟩) ?_ ?_
              rotate_left
              ·
               intro w'
               go_simp
               with_reducible rfl
              rotate_left
              ·
               simp only [Act.put, List.setIfInBounds_toArray, List.set_cons_zero, List.set_cons_succ, i64_w, i32_w]
               rfl
              refine pure_ (i := 3) (N := some 14) (v := ?_) (a' := ?_) #[true, false, false, true, false, false, false, false, false] rfl rfl (any_of HT_.out (by kernel_rfl)) (fun _ _ _ h => h) (Or.inl ⟨by rfl, ?_⟩) ?_ ?_
              rotate_left
              ·
               intro w'
               go_simp
               with_reducible rfl
              rotate_left
              ·
               simp only [Act.put, List.setIfInBounds_toArray, List.set_cons_zero, List.set_cons_succ, i64_w, i32_w]
               rfl
              refine take_ (i := 1) (N := some 12) (v := ?_) (a' := ?_) #[true, true, false, true, false, false, false, false, false] rfl rfl (take_ofW HT_.out HW_.out (by kernel_rfl)) (fun _ _ _ h => h) (Or.inl ⟨by rfl, ?_⟩) hHeld ?_ ?_
              rotate_left
              ·
               rintro w' ⟨s0, s1⟩
               go_simp
               with_reducible rfl
              rotate_left
              ·
               simp only [Act.put, List.setIfInBounds_toArray, List.set_cons_zero, List.set_cons_succ, i64_w, i32_w]
               rfl
              refine take_ (i := 4) (N := some 15) (v := ?_) (a' := ?_) #[true, true, false, true, true, false, false, false, false] rfl rfl (take_ofW HT_.out HW_.out (by kernel_rfl)) (fun _ _ _ h => h) (Or.inl ⟨by rfl, ?_⟩) hHeld ?_ ?_
              rotate_left
              ·
               rintro w' ⟨s0, s1⟩
               go_simp
               with_reducible rfl
              rotate_left
              ·
               simp only [Act.put, List.setIfInBounds_toArray, List.set_cons_zero, List.set_cons_succ, i64_w, i32_w]
               rfl
              refine join_ (σ := Value × Value × Nat) 1 #[true, true, true, true, true, true, true, true, false] (fun s_ => [(13, s_.1), (16, s_.2.1), (6, .pointer (some ⟨s_.2.2, 0, none⟩)), (17, .agg #[s_.1, s_.2.1])]) (fun s_ w' => (w'.cell? ⟨gb684, 0, none⟩ = some (.slice A0_0 l0_0.length c0_0) ∧ w'.cell? ⟨gb684, 1, none⟩ = some (.slice A0_1 l0_1.length c0_1)) ∧ (Kd.R (Kd.int .i64) 3 w' w.heap.size (fun k_ => some k_ ≠ (s_.2.1 : Value).ownBlock) s_.1 t686) ∧ (Kd.R (Kd.int .i64) 3 w' w.heap.size (fun k_ => some k_ ≠ (s_.1 : Value).ownBlock) s_.2.1 t689) ∧ (w'.heap[gb684]? = some (.cells #[.slice A0_0 l0_0.length c0_0, .slice A0_1 l0_1.length c0_1] 36 (0, 0))) ∧ (w'.heap[gb685]? = some (.cells #[.slice none 0 0, .slice none 0 0] 36 (0, 0))) ∧ (w'.heap[s_.2.2]? = some (.cells #[.slice none 0 0, .slice none 0 0] 36 (0, 0))) ∧ (w.heap.size ≤ s_.2.2) ∧ (w.heap.size ≤ s_.2.2) ∧ (gb684 ≠ s_.2.2) ∧ (s_.2.2 ≠ gb684) ∧ (gb685 ≠ s_.2.2) ∧ (s_.2.2 ≠ gb685) ∧ (Below w.heap.size w w')) ?_ ?_
              rotate_left
              ·
               intro hCont
               refine two_ (i := 2) (j := 7) (Ni := some 13) (Nj := some 6) #[true, true, true, true, true, false, false, false, false] #[true, true, false, true, true, false, false, true, false] rfl rfl rfl rfl (two_of HT_.out (by kernel_rfl)) (by decide) (by decide) (fun K hK => ?_) (fun K hK => ?_)
               ·
                skip
                refine goes_ Try.func34 (by kernel_rfl) rfl #[.slice A0_0 l0_0.length c0_0] (by rfl) rfl rfl (by (try simp only [List.map_toArray, List.map_cons, List.map_nil]); first | done | rfl | (simp only [List.length_drop, List.length_take]; rfl)) ?_
                with_reducible refine (spec_l1Own.calls _ _ l0_0 t686 _ ?side1 ?side2 A3.out).mono ?_
                (case side1 => repeat (first | exact (Kd.C_below HR0_0.out HB.out) | (with_reducible refine Kd.C_alloc ?_ _) | (with_reducible refine Kd.C_drewN ?_ _) | (with_reducible refine Kd.C_drew ?_)))
                (case side2 => exact HC0_0.out)
                rintro e w30 ⟨v687, rfl, ho0, hb⟩
                refine ⟨_, rfl, ?_⟩
                have n0_ := Aside0.mk (Kd.R_lower ho0 (below_size (by repeat (first | (with_reducible first | exact HB.out | apply below_alloc | apply pw_below_drewN | apply below_drew1 | refine below_set ?_ GE684.out | refine below_set ?_ GE685.out) | exact HB.out))))
                have n1_ := Aside0.mk (blk_below (g := gb684) (o := .cells #[.slice A0_0 l0_0.length c0_0, .slice A0_1 l0_1.length c0_1] 36 (0, 0)) (by (with_reducible repeat (first | refine blk_drewN ?_ _ | refine blk_drew ?_ | refine blk_alloc ?_ _)); exact BK684.out) hb)
                have n2_ := Aside0.mk (blk_below (g := gb685) (o := .cells #[.slice none 0 0, .slice none 0 0] 36 (0, 0)) (by (with_reducible repeat (first | refine blk_drewN ?_ _ | refine blk_drew ?_ | refine blk_alloc ?_ _)); exact BK685.out) hb)
                have n3_ := Aside0.mk (below_step (by repeat (first | (with_reducible first | exact HB.out | apply below_alloc | apply pw_below_drewN | apply below_drew1 | refine below_set ?_ GE684.out | refine below_set ?_ GE685.out) | exact HB.out)) hb)
                clear BK684
                clear BK685
                clear HB
                have HO688 := n0_
                have BK684 := n1_
                have BK685 := n2_
                have HB := n3_
                clear n0_ n1_ n2_ n3_
                (try clear hb)
                (try clear hb2)
                (try clear hk)
                (try clear hi)
                (try clear ho0)
                refine hK.out _ _ ⟨(blk_cell BK684.out 0).trans rfl, (blk_cell BK684.out 1).trans rfl⟩ (fun hHeld => ?_)
                clear hK K
                refine norm_ (a' := ?_) ?_ ?_
                rotate_left
                ·
                 show Act.put _ (some 13) _ = _
                 simp only [Act.put, List.setIfInBounds_toArray, List.set_cons_zero, List.set_cons_succ, i64_w, i32_w]
                 rfl
                refine two_ (i := 5) (j := 7) (Ni := some 16) (Nj := some 6) #[true, true, true, true, true, true, false, false, false] #[true, true, true, true, true, false, false, true, false] rfl rfl rfl rfl (two_of HT_.out (by kernel_rfl)) (by decide) (by decide) (fun K hK => ?_) (fun K hK => ?_)
                ·
                 skip
                 refine goes_ Try.func34 (by kernel_rfl) rfl #[.slice A0_1 l0_1.length c0_1] (by rfl) rfl rfl (by (try simp only [List.map_toArray, List.map_cons, List.map_nil]); first | done | rfl | (simp only [List.length_drop, List.length_take]; rfl)) ?_
                 with_reducible refine (spec_l1Own.calls _ _ l0_1 t689 _ ?side1 ?side2 A4.out).mono ?_
                 (case side1 => repeat (first | exact (Kd.C_below HR0_1.out HB.out) | (with_reducible refine Kd.C_alloc ?_ _) | (with_reducible refine Kd.C_drewN ?_ _) | (with_reducible refine Kd.C_drew ?_)))
                 (case side2 => exact HC0_1.out)
                 rintro e w31 ⟨v690, rfl, ho0, hb⟩
                 refine ⟨_, rfl, ?_⟩
                 have n0_ := Aside0.mk (Kd.R_elder' (by (with_reducible repeat (first | apply Kd.R_alloc | apply Kd.R_drewN | apply Kd.R_drew)); exact HO688.out) (Kd.R_base ho0) hb)
                 have n1_ := Aside0.mk (Kd.R_lower (Kd.R_new' ho0 (Kd.R_lt (by (with_reducible repeat (first | apply Kd.R_alloc | apply Kd.R_drewN | apply Kd.R_drew)); exact HO688.out))) (below_size (by repeat (first | (with_reducible first | exact HB.out | apply below_alloc | apply pw_below_drewN | apply below_drew1 | refine below_set ?_ GE684.out | refine below_set ?_ GE685.out) | exact HB.out))))
                 have n2_ := Aside0.mk (blk_below (g := gb684) (o := .cells #[.slice A0_0 l0_0.length c0_0, .slice A0_1 l0_1.length c0_1] 36 (0, 0)) (by (with_reducible repeat (first | refine blk_drewN ?_ _ | refine blk_drew ?_ | refine blk_alloc ?_ _)); exact BK684.out) hb)
                 have n3_ := Aside0.mk (blk_below (g := gb685) (o := .cells #[.slice none 0 0, .slice none 0 0] 36 (0, 0)) (by (with_reducible repeat (first | refine blk_drewN ?_ _ | refine blk_drew ?_ | refine blk_alloc ?_ _)); exact BK685.out) hb)
                 have n4_ := Aside0.mk (below_step (by repeat (first | (with_reducible first | exact HB.out | apply below_alloc | apply pw_below_drewN | apply below_drew1 | refine below_set ?_ GE684.out | refine below_set ?_ GE685.out) | exact HB.out)) hb)
                 clear HO688
                 clear BK684
                 clear BK685
                 clear HB
                 have HO688 := n0_
                 have HO691 := n1_
                 have BK684 := n2_
                 have BK685 := n3_
                 have HB := n4_
                 clear n0_ n1_ n2_ n3_ n4_
                 (try clear hb)
                 (try clear hb2)
                 (try clear hk)
                 (try clear hi)
                 (try clear ho0)
                 obtain ⟨Ao32, co32, eo32⟩ := Kd.R_slice HO691.out
                 (first | subst eo32 | (injection eo32 with f1_ f2_ f3_; have f4_ := f1_.symm; have f5_ := f3_.symm; clear f1_ f2_ f3_; subst f4_; subst f5_))
                 obtain ⟨Ao33, co33, eo33⟩ := Kd.R_slice HO688.out
                 (first | subst eo33 | (injection eo33 with f1_ f2_ f3_; have f4_ := f1_.symm; have f5_ := f3_.symm; clear f1_ f2_ f3_; subst f4_; subst f5_))
                 refine hK.out _ _ ⟨(blk_cell BK684.out 0).trans rfl, (blk_cell BK684.out 1).trans rfl⟩ (fun hHeld => ?_)
                 clear hK K
                 refine norm_ (a' := ?_) ?_ ?_
                 rotate_left
                 ·
                  show Act.put _ (some 16) _ = _
                  simp only [Act.put, List.setIfInBounds_toArray, List.set_cons_zero, List.set_cons_succ, i64_w, i32_w]
                  rfl
                 refine pure_ (i := 6) (N := some 17) (v := ?_) (a' := ?_) #[true, true, true, true, true, true, true, false, false] rfl rfl (any_of HT_.out (by kernel_rfl)) (fun _ _ _ h => h) (Or.inl ⟨by rfl, ?_⟩) ?_ ?_
                 rotate_left
                 ·
                  intro w'
                  go_simp
                  with_reducible rfl
                 rotate_left
                 ·
                  simp only [Act.put, List.setIfInBounds_toArray, List.set_cons_zero, List.set_cons_succ, i64_w, i32_w]
                  rfl
                 refine one_ (i := 7) (N := some 6) #[true, true, true, true, true, true, true, true, false] rfl rfl (one_of HT_.out (by kernel_rfl)) (by decide) (fun K hK => ?_)
                 refine box_step ?hg (N := 6) ?hd (cs := #[.slice none 0 0, .slice none 0 0]) (t := 36) ?hr ?_; (case hd => rfl); (case hg => rfl); (case hr => first | (go_simp; done) | (go_simp; rfl))
                 intro gb692 hg w34 hbox hb
                 have n0_ := Aside0.mk (Kd.R_below (by (with_reducible repeat (first | apply Kd.R_alloc | apply Kd.R_drewN | apply Kd.R_drew)); exact HO688.out) hb)
                 have n1_ := Aside0.mk (Kd.R_below (by (with_reducible repeat (first | apply Kd.R_alloc | apply Kd.R_drewN | apply Kd.R_drew)); exact HO691.out) hb)
                 have n2_ := Aside0.mk (blk_below (g := gb684) (o := .cells #[.slice A0_0 l0_0.length c0_0, .slice A0_1 l0_1.length c0_1] 36 (0, 0)) (by (with_reducible repeat (first | refine blk_drewN ?_ _ | refine blk_drew ?_ | refine blk_alloc ?_ _)); exact BK684.out) hb)
                 have n3_ := Aside0.mk (blk_below (g := gb685) (o := .cells #[.slice none 0 0, .slice none 0 0] 36 (0, 0)) (by (with_reducible repeat (first | refine blk_drewN ?_ _ | refine blk_drew ?_ | refine blk_alloc ?_ _)); exact BK685.out) hb)
                 have n4_ := Aside0.mk (below_step (by repeat (first | (with_reducible first | exact HB.out | apply below_alloc | apply pw_below_drewN | apply below_drew1 | refine below_set ?_ GE684.out | refine below_set ?_ GE685.out) | exact HB.out)) hb)
                 have n5_ := Aside0.mk (hbox)
                 have n6_ := Aside0.mk ((by rw [hg]; exact (below_size (by repeat (first | (with_reducible first | exact HB.out | apply below_alloc | apply pw_below_drewN | apply below_drew1 | refine below_set ?_ GE684.out | refine below_set ?_ GE685.out) | exact HB.out))) : w.heap.size ≤ gb692))
                 have n7_ := Aside0.mk ((by rw [hg]; exact (below_size (by repeat (first | (with_reducible first | exact HB.out | apply below_alloc | apply pw_below_drewN | apply below_drew1 | refine below_set ?_ GE684.out | refine below_set ?_ GE685.out) | exact HB.out))) : w.heap.size ≤ gb692))
                 have n8_ := Aside0.mk ((by rw [hg]; exact Nat.ne_of_lt (blk_lt (g := gb684) (o := .cells #[.slice A0_0 l0_0.length c0_0, .slice A0_1 l0_1.length c0_1] 36 (0, 0)) (by (with_reducible repeat (first | refine blk_drewN ?_ _ | refine blk_drew ?_ | refine blk_alloc ?_ _)); exact BK684.out)) : gb684 ≠ gb692))
                 have n9_ := Aside0.mk ((by rw [hg]; exact Nat.ne_of_gt (blk_lt (g := gb684) (o := .cells #[.slice A0_0 l0_0.length c0_0, .slice A0_1 l0_1.length c0_1] 36 (0, 0)) (by (with_reducible repeat (first | refine blk_drewN ?_ _ | refine blk_drew ?_ | refine blk_alloc ?_ _)); exact BK684.out)) : gb692 ≠ gb684))
                 have n10_ := Aside0.mk ((by rw [hg]; exact Nat.ne_of_lt (blk_lt (g := gb685) (o := .cells #[.slice none 0 0, .slice none 0 0] 36 (0, 0)) (by (with_reducible repeat (first | refine blk_drewN ?_ _ | refine blk_drew ?_ | refine blk_alloc ?_ _)); exact BK685.out)) : gb685 ≠ gb692))
                 have n11_ := Aside0.mk ((by rw [hg]; exact Nat.ne_of_gt (blk_lt (g := gb685) (o := .cells #[.slice none 0 0, .slice none 0 0] 36 (0, 0)) (by (with_reducible repeat (first | refine blk_drewN ?_ _ | refine blk_drew ?_ | refine blk_alloc ?_ _)); exact BK685.out)) : gb692 ≠ gb685))
                 clear HO688
                 clear HO691
                 clear BK684
                 clear BK685
                 clear HB
                 have HO688 := n0_
                 have HO691 := n1_
                 have BK684 := n2_
                 have BK685 := n3_
                 have HB := n4_
                 have BK692 := n5_
                 have GW692 := n6_
                 have GE692 := n7_
                 have NB684_692 := n8_
                 have NB692_684 := n9_
                 have NB685_692 := n10_
                 have NB692_685 := n11_
                 clear n0_ n1_ n2_ n3_ n4_ n5_ n6_ n7_ n8_ n9_ n10_ n11_
                 clear hb hbox hg
                 refine hK.out _ _ ⟨(blk_cell BK684.out 0).trans rfl, (blk_cell BK684.out 1).trans rfl⟩ (fun hHeld => ?_)
                 clear hK K
                 refine norm_ (a' := ?_) ?_ ?_
                 rotate_left
                 ·
                  show Act.put _ (some 6) _ = _
                  simp only [Act.put, List.setIfInBounds_toArray, List.set_cons_zero, List.set_cons_succ, i64_w, i32_w]
                  rfl
                 exact norm_ (by simp only [putAll, Act.put, List.setIfInBounds_toArray, List.set_cons_zero, List.set_cons_succ]) (hCont (.slice Ao33 t686.length co33, .slice Ao32 t689.length co32, gb692) _ ⟨hHeld, (by (with_reducible repeat (first | apply Kd.R_alloc | apply Kd.R_drewN | apply Kd.R_drew)); exact Kd.R_mono HO688.out (fun _ hk => hk.2)), (by (with_reducible repeat (first | apply Kd.R_alloc | apply Kd.R_drewN | apply Kd.R_drew)); exact Kd.R_mono HO691.out (fun _ hk => hk.2)), (by (with_reducible repeat (first | refine blk_drewN ?_ _ | refine blk_drew ?_ | refine blk_alloc ?_ _)); exact BK684.out), (by (with_reducible repeat (first | refine blk_drewN ?_ _ | refine blk_drew ?_ | refine blk_alloc ?_ _)); exact BK685.out), (by (with_reducible repeat (first | refine blk_drewN ?_ _ | refine blk_drew ?_ | refine blk_alloc ?_ _)); exact BK692.out), GW692.out, GE692.out, NB684_692.out, NB692_684.out, NB685_692.out, NB692_685.out, (by repeat (first | (with_reducible first | exact HB.out | apply below_alloc | apply pw_below_drewN | apply below_drew1 | refine below_set ?_ GE684.out | refine below_set ?_ GE685.out | refine below_set ?_ GE692.out) | exact HB.out))⟩)
                ·
                 skip
                 refine box_step ?hg (N := 6) ?hd (cs := #[.slice none 0 0, .slice none 0 0]) (t := 36) ?hr ?_; (case hd => rfl); (case hg => rfl); (case hr => first | (go_simp; done) | (go_simp; rfl))
                 intro gb692 hg w31 hbox hb
                 have n0_ := Aside0.mk (Kd.R_below (by (with_reducible repeat (first | apply Kd.R_alloc | apply Kd.R_drewN | apply Kd.R_drew)); exact HO688.out) hb)
                 have n1_ := Aside0.mk (blk_below (g := gb684) (o := .cells #[.slice A0_0 l0_0.length c0_0, .slice A0_1 l0_1.length c0_1] 36 (0, 0)) (by (with_reducible repeat (first | refine blk_drewN ?_ _ | refine blk_drew ?_ | refine blk_alloc ?_ _)); exact BK684.out) hb)
                 have n2_ := Aside0.mk (blk_below (g := gb685) (o := .cells #[.slice none 0 0, .slice none 0 0] 36 (0, 0)) (by (with_reducible repeat (first | refine blk_drewN ?_ _ | refine blk_drew ?_ | refine blk_alloc ?_ _)); exact BK685.out) hb)
                 have n3_ := Aside0.mk (below_step (by repeat (first | (with_reducible first | exact HB.out | apply below_alloc | apply pw_below_drewN | apply below_drew1 | refine below_set ?_ GE684.out | refine below_set ?_ GE685.out) | exact HB.out)) hb)
                 have n4_ := Aside0.mk (hbox)
                 have n5_ := Aside0.mk ((by rw [hg]; exact (below_size (by repeat (first | (with_reducible first | exact HB.out | apply below_alloc | apply pw_below_drewN | apply below_drew1 | refine below_set ?_ GE684.out | refine below_set ?_ GE685.out) | exact HB.out))) : w.heap.size ≤ gb692))
                 have n6_ := Aside0.mk ((by rw [hg]; exact (below_size (by repeat (first | (with_reducible first | exact HB.out | apply below_alloc | apply pw_below_drewN | apply below_drew1 | refine below_set ?_ GE684.out | refine below_set ?_ GE685.out) | exact HB.out))) : w.heap.size ≤ gb692))
                 have n7_ := Aside0.mk ((by rw [hg]; exact Nat.ne_of_lt (blk_lt (g := gb684) (o := .cells #[.slice A0_0 l0_0.length c0_0, .slice A0_1 l0_1.length c0_1] 36 (0, 0)) (by (with_reducible repeat (first | refine blk_drewN ?_ _ | refine blk_drew ?_ | refine blk_alloc ?_ _)); exact BK684.out)) : gb684 ≠ gb692))
                 have n8_ := Aside0.mk ((by rw [hg]; exact Nat.ne_of_gt (blk_lt (g := gb684) (o := .cells #[.slice A0_0 l0_0.length c0_0, .slice A0_1 l0_1.length c0_1] 36 (0, 0)) (by (with_reducible repeat (first | refine blk_drewN ?_ _ | refine blk_drew ?_ | refine blk_alloc ?_ _)); exact BK684.out)) : gb692 ≠ gb684))
                 have n9_ := Aside0.mk ((by rw [hg]; exact Nat.ne_of_lt (blk_lt (g := gb685) (o := .cells #[.slice none 0 0, .slice none 0 0] 36 (0, 0)) (by (with_reducible repeat (first | refine blk_drewN ?_ _ | refine blk_drew ?_ | refine blk_alloc ?_ _)); exact BK685.out)) : gb685 ≠ gb692))
                 have n10_ := Aside0.mk ((by rw [hg]; exact Nat.ne_of_gt (blk_lt (g := gb685) (o := .cells #[.slice none 0 0, .slice none 0 0] 36 (0, 0)) (by (with_reducible repeat (first | refine blk_drewN ?_ _ | refine blk_drew ?_ | refine blk_alloc ?_ _)); exact BK685.out)) : gb692 ≠ gb685))
                 clear HO688
                 clear BK684
                 clear BK685
                 clear HB
                 have HO688 := n0_
                 have BK684 := n1_
                 have BK685 := n2_
                 have HB := n3_
                 have BK692 := n4_
                 have GW692 := n5_
                 have GE692 := n6_
                 have NB684_692 := n7_
                 have NB692_684 := n8_
                 have NB685_692 := n9_
                 have NB692_685 := n10_
                 clear n0_ n1_ n2_ n3_ n4_ n5_ n6_ n7_ n8_ n9_ n10_
                 clear hb hbox hg
                 refine hK.out _ _ ⟨(blk_cell BK684.out 0).trans rfl, (blk_cell BK684.out 1).trans rfl⟩ (fun hHeld => ?_)
                 clear hK K
                 refine norm_ (a' := ?_) ?_ ?_
                 rotate_left
                 ·
                  show Act.put _ (some 6) _ = _
                  simp only [Act.put, List.setIfInBounds_toArray, List.set_cons_zero, List.set_cons_succ, i64_w, i32_w]
                  rfl
                 refine one_ (i := 5) (N := some 16) #[true, true, true, true, true, true, false, true, false] rfl rfl (one_of HT_.out (by kernel_rfl)) (by decide) (fun K hK => ?_)
                 refine goes_ Try.func34 (by kernel_rfl) rfl #[.slice A0_1 l0_1.length c0_1] (by rfl) rfl rfl (by (try simp only [List.map_toArray, List.map_cons, List.map_nil]); first | done | rfl | (simp only [List.length_drop, List.length_take]; rfl)) ?_
                 with_reducible refine (spec_l1Own.calls _ _ l0_1 t689 _ ?side1 ?side2 A4.out).mono ?_
                 (case side1 => repeat (first | exact (Kd.C_below HR0_1.out HB.out) | (with_reducible refine Kd.C_alloc ?_ _) | (with_reducible refine Kd.C_drewN ?_ _) | (with_reducible refine Kd.C_drew ?_)))
                 (case side2 => exact HC0_1.out)
                 rintro e w32 ⟨v690, rfl, ho0, hb⟩
                 refine ⟨_, rfl, ?_⟩
                 have n0_ := Aside0.mk (Kd.R_elder' (by (with_reducible repeat (first | apply Kd.R_alloc | apply Kd.R_drewN | apply Kd.R_drew)); exact HO688.out) (Kd.R_base ho0) hb)
                 have n1_ := Aside0.mk (Kd.R_lower (Kd.R_new' ho0 (Kd.R_lt (by (with_reducible repeat (first | apply Kd.R_alloc | apply Kd.R_drewN | apply Kd.R_drew)); exact HO688.out))) (below_size (by repeat (first | (with_reducible first | exact HB.out | apply below_alloc | apply pw_below_drewN | apply below_drew1 | refine below_set ?_ GE684.out | refine below_set ?_ GE685.out | refine below_set ?_ GE692.out) | exact HB.out))))
                 have n2_ := Aside0.mk (blk_below (g := gb684) (o := .cells #[.slice A0_0 l0_0.length c0_0, .slice A0_1 l0_1.length c0_1] 36 (0, 0)) (by (with_reducible repeat (first | refine blk_drewN ?_ _ | refine blk_drew ?_ | refine blk_alloc ?_ _)); exact BK684.out) hb)
                 have n3_ := Aside0.mk (blk_below (g := gb685) (o := .cells #[.slice none 0 0, .slice none 0 0] 36 (0, 0)) (by (with_reducible repeat (first | refine blk_drewN ?_ _ | refine blk_drew ?_ | refine blk_alloc ?_ _)); exact BK685.out) hb)
                 have n4_ := Aside0.mk (blk_below (g := gb692) (o := .cells #[.slice none 0 0, .slice none 0 0] 36 (0, 0)) (by (with_reducible repeat (first | refine blk_drewN ?_ _ | refine blk_drew ?_ | refine blk_alloc ?_ _)); exact BK692.out) hb)
                 have n5_ := Aside0.mk (below_step (by repeat (first | (with_reducible first | exact HB.out | apply below_alloc | apply pw_below_drewN | apply below_drew1 | refine below_set ?_ GE684.out | refine below_set ?_ GE685.out | refine below_set ?_ GE692.out) | exact HB.out)) hb)
                 clear HO688
                 clear BK684
                 clear BK685
                 clear BK692
                 clear HB
                 have HO688 := n0_
                 have HO691 := n1_
                 have BK684 := n2_
                 have BK685 := n3_
                 have BK692 := n4_
                 have HB := n5_
                 clear n0_ n1_ n2_ n3_ n4_ n5_
                 (try clear hb)
                 (try clear hb2)
                 (try clear hk)
                 (try clear hi)
                 (try clear ho0)
                 obtain ⟨Ao33, co33, eo33⟩ := Kd.R_slice HO691.out
                 (first | subst eo33 | (injection eo33 with f1_ f2_ f3_; have f4_ := f1_.symm; have f5_ := f3_.symm; clear f1_ f2_ f3_; subst f4_; subst f5_))
                 obtain ⟨Ao34, co34, eo34⟩ := Kd.R_slice HO688.out
                 (first | subst eo34 | (injection eo34 with f1_ f2_ f3_; have f4_ := f1_.symm; have f5_ := f3_.symm; clear f1_ f2_ f3_; subst f4_; subst f5_))
                 refine hK.out _ _ ⟨(blk_cell BK684.out 0).trans rfl, (blk_cell BK684.out 1).trans rfl⟩ (fun hHeld => ?_)
                 clear hK K
                 refine norm_ (a' := ?_) ?_ ?_
                 rotate_left
                 ·
                  show Act.put _ (some 16) _ = _
                  simp only [Act.put, List.setIfInBounds_toArray, List.set_cons_zero, List.set_cons_succ, i64_w, i32_w]
                  rfl
                 refine pure_ (i := 6) (N := some 17) (v := ?_) (a' := ?_) #[true, true, true, true, true, true, true, true, false] rfl rfl (any_of HT_.out (by kernel_rfl)) (fun _ _ _ h => h) (Or.inl ⟨by rfl, ?_⟩) ?_ ?_
                 rotate_left
                 ·
                  intro w'
                  go_simp
                  with_reducible rfl
                 rotate_left
                 ·
                  simp only [Act.put, List.setIfInBounds_toArray, List.set_cons_zero, List.set_cons_succ, i64_w, i32_w]
                  rfl
                 exact norm_ (by simp only [putAll, Act.put, List.setIfInBounds_toArray, List.set_cons_zero, List.set_cons_succ]) (hCont (.slice Ao34 t686.length co34, .slice Ao33 t689.length co33, gb692) _ ⟨hHeld, (by (with_reducible repeat (first | apply Kd.R_alloc | apply Kd.R_drewN | apply Kd.R_drew)); exact Kd.R_mono HO688.out (fun _ hk => hk.2)), (by (with_reducible repeat (first | apply Kd.R_alloc | apply Kd.R_drewN | apply Kd.R_drew)); exact Kd.R_mono HO691.out (fun _ hk => hk.2)), (by (with_reducible repeat (first | refine blk_drewN ?_ _ | refine blk_drew ?_ | refine blk_alloc ?_ _)); exact BK684.out), (by (with_reducible repeat (first | refine blk_drewN ?_ _ | refine blk_drew ?_ | refine blk_alloc ?_ _)); exact BK685.out), (by (with_reducible repeat (first | refine blk_drewN ?_ _ | refine blk_drew ?_ | refine blk_alloc ?_ _)); exact BK692.out), GW692.out, GE692.out, NB684_692.out, NB692_684.out, NB685_692.out, NB692_685.out, (by repeat (first | (with_reducible first | exact HB.out | apply below_alloc | apply pw_below_drewN | apply below_drew1 | refine below_set ?_ GE684.out | refine below_set ?_ GE685.out | refine below_set ?_ GE692.out) | exact HB.out))⟩)
               ·
                skip
                refine box_step ?hg (N := 6) ?hd (cs := #[.slice none 0 0, .slice none 0 0]) (t := 36) ?hr ?_; (case hd => rfl); (case hg => rfl); (case hr => first | (go_simp; done) | (go_simp; rfl))
                intro gb692 hg w30 hbox hb
                have n0_ := Aside0.mk (blk_below (g := gb684) (o := .cells #[.slice A0_0 l0_0.length c0_0, .slice A0_1 l0_1.length c0_1] 36 (0, 0)) (by (with_reducible repeat (first | refine blk_drewN ?_ _ | refine blk_drew ?_ | refine blk_alloc ?_ _)); exact BK684.out) hb)
                have n1_ := Aside0.mk (blk_below (g := gb685) (o := .cells #[.slice none 0 0, .slice none 0 0] 36 (0, 0)) (by (with_reducible repeat (first | refine blk_drewN ?_ _ | refine blk_drew ?_ | refine blk_alloc ?_ _)); exact BK685.out) hb)
                have n2_ := Aside0.mk (below_step (by repeat (first | (with_reducible first | exact HB.out | apply below_alloc | apply pw_below_drewN | apply below_drew1 | refine below_set ?_ GE684.out | refine below_set ?_ GE685.out) | exact HB.out)) hb)
                have n3_ := Aside0.mk (hbox)
                have n4_ := Aside0.mk ((by rw [hg]; exact (below_size (by repeat (first | (with_reducible first | exact HB.out | apply below_alloc | apply pw_below_drewN | apply below_drew1 | refine below_set ?_ GE684.out | refine below_set ?_ GE685.out) | exact HB.out))) : w.heap.size ≤ gb692))
                have n5_ := Aside0.mk ((by rw [hg]; exact (below_size (by repeat (first | (with_reducible first | exact HB.out | apply below_alloc | apply pw_below_drewN | apply below_drew1 | refine below_set ?_ GE684.out | refine below_set ?_ GE685.out) | exact HB.out))) : w.heap.size ≤ gb692))
                have n6_ := Aside0.mk ((by rw [hg]; exact Nat.ne_of_lt (blk_lt (g := gb684) (o := .cells #[.slice A0_0 l0_0.length c0_0, .slice A0_1 l0_1.length c0_1] 36 (0, 0)) (by (with_reducible repeat (first | refine blk_drewN ?_ _ | refine blk_drew ?_ | refine blk_alloc ?_ _)); exact BK684.out)) : gb684 ≠ gb692))
                have n7_ := Aside0.mk ((by rw [hg]; exact Nat.ne_of_gt (blk_lt (g := gb684) (o := .cells #[.slice A0_0 l0_0.length c0_0, .slice A0_1 l0_1.length c0_1] 36 (0, 0)) (by (with_reducible repeat (first | refine blk_drewN ?_ _ | refine blk_drew ?_ | refine blk_alloc ?_ _)); exact BK684.out)) : gb692 ≠ gb684))
                have n8_ := Aside0.mk ((by rw [hg]; exact Nat.ne_of_lt (blk_lt (g := gb685) (o := .cells #[.slice none 0 0, .slice none 0 0] 36 (0, 0)) (by (with_reducible repeat (first | refine blk_drewN ?_ _ | refine blk_drew ?_ | refine blk_alloc ?_ _)); exact BK685.out)) : gb685 ≠ gb692))
                have n9_ := Aside0.mk ((by rw [hg]; exact Nat.ne_of_gt (blk_lt (g := gb685) (o := .cells #[.slice none 0 0, .slice none 0 0] 36 (0, 0)) (by (with_reducible repeat (first | refine blk_drewN ?_ _ | refine blk_drew ?_ | refine blk_alloc ?_ _)); exact BK685.out)) : gb692 ≠ gb685))
                clear BK684
                clear BK685
                clear HB
                have BK684 := n0_
                have BK685 := n1_
                have HB := n2_
                have BK692 := n3_
                have GW692 := n4_
                have GE692 := n5_
                have NB684_692 := n6_
                have NB692_684 := n7_
                have NB685_692 := n8_
                have NB692_685 := n9_
                clear n0_ n1_ n2_ n3_ n4_ n5_ n6_ n7_ n8_ n9_
                clear hb hbox hg
                refine hK.out _ _ ⟨(blk_cell BK684.out 0).trans rfl, (blk_cell BK684.out 1).trans rfl⟩ (fun hHeld => ?_)
                clear hK K
                refine norm_ (a' := ?_) ?_ ?_
                rotate_left
                ·
                 show Act.put _ (some 6) _ = _
                 simp only [Act.put, List.setIfInBounds_toArray, List.set_cons_zero, List.set_cons_succ, i64_w, i32_w]
                 rfl
                refine one_ (i := 2) (N := some 13) #[true, true, true, true, true, false, false, true, false] rfl rfl (one_of HT_.out (by kernel_rfl)) (by decide) (fun K hK => ?_)
                refine goes_ Try.func34 (by kernel_rfl) rfl #[.slice A0_0 l0_0.length c0_0] (by rfl) rfl rfl (by (try simp only [List.map_toArray, List.map_cons, List.map_nil]); first | done | rfl | (simp only [List.length_drop, List.length_take]; rfl)) ?_
                with_reducible refine (spec_l1Own.calls _ _ l0_0 t686 _ ?side1 ?side2 A3.out).mono ?_
                (case side1 => repeat (first | exact (Kd.C_below HR0_0.out HB.out) | (with_reducible refine Kd.C_alloc ?_ _) | (with_reducible refine Kd.C_drewN ?_ _) | (with_reducible refine Kd.C_drew ?_)))
                (case side2 => exact HC0_0.out)
                rintro e w31 ⟨v687, rfl, ho0, hb⟩
                refine ⟨_, rfl, ?_⟩
                have n0_ := Aside0.mk (Kd.R_lower ho0 (below_size (by repeat (first | (with_reducible first | exact HB.out | apply below_alloc | apply pw_below_drewN | apply below_drew1 | refine below_set ?_ GE684.out | refine below_set ?_ GE685.out | refine below_set ?_ GE692.out) | exact HB.out))))
                have n1_ := Aside0.mk (blk_below (g := gb684) (o := .cells #[.slice A0_0 l0_0.length c0_0, .slice A0_1 l0_1.length c0_1] 36 (0, 0)) (by (with_reducible repeat (first | refine blk_drewN ?_ _ | refine blk_drew ?_ | refine blk_alloc ?_ _)); exact BK684.out) hb)
                have n2_ := Aside0.mk (blk_below (g := gb685) (o := .cells #[.slice none 0 0, .slice none 0 0] 36 (0, 0)) (by (with_reducible repeat (first | refine blk_drewN ?_ _ | refine blk_drew ?_ | refine blk_alloc ?_ _)); exact BK685.out) hb)
                have n3_ := Aside0.mk (blk_below (g := gb692) (o := .cells #[.slice none 0 0, .slice none 0 0] 36 (0, 0)) (by (with_reducible repeat (first | refine blk_drewN ?_ _ | refine blk_drew ?_ | refine blk_alloc ?_ _)); exact BK692.out) hb)
                have n4_ := Aside0.mk (below_step (by repeat (first | (with_reducible first | exact HB.out | apply below_alloc | apply pw_below_drewN | apply below_drew1 | refine below_set ?_ GE684.out | refine below_set ?_ GE685.out | refine below_set ?_ GE692.out) | exact HB.out)) hb)
                clear BK684
                clear BK685
                clear BK692
                clear HB
                have HO688 := n0_
                have BK684 := n1_
                have BK685 := n2_
                have BK692 := n3_
                have HB := n4_
                clear n0_ n1_ n2_ n3_ n4_
                (try clear hb)
                (try clear hb2)
                (try clear hk)
                (try clear hi)
                (try clear ho0)
                refine hK.out _ _ ⟨(blk_cell BK684.out 0).trans rfl, (blk_cell BK684.out 1).trans rfl⟩ (fun hHeld => ?_)
                clear hK K
                refine norm_ (a' := ?_) ?_ ?_
                rotate_left
                ·
                 show Act.put _ (some 13) _ = _
                 simp only [Act.put, List.setIfInBounds_toArray, List.set_cons_zero, List.set_cons_succ, i64_w, i32_w]
                 rfl
                refine one_ (i := 5) (N := some 16) #[true, true, true, true, true, true, false, true, false] rfl rfl (one_of HT_.out (by kernel_rfl)) (by decide) (fun K hK => ?_)
                refine goes_ Try.func34 (by kernel_rfl) rfl #[.slice A0_1 l0_1.length c0_1] (by rfl) rfl rfl (by (try simp only [List.map_toArray, List.map_cons, List.map_nil]); first | done | rfl | (simp only [List.length_drop, List.length_take]; rfl)) ?_
                with_reducible refine (spec_l1Own.calls _ _ l0_1 t689 _ ?side1 ?side2 A4.out).mono ?_
                (case side1 => repeat (first | exact (Kd.C_below HR0_1.out HB.out) | (with_reducible refine Kd.C_alloc ?_ _) | (with_reducible refine Kd.C_drewN ?_ _) | (with_reducible refine Kd.C_drew ?_)))
                (case side2 => exact HC0_1.out)
                rintro e w32 ⟨v690, rfl, ho0, hb⟩
                refine ⟨_, rfl, ?_⟩
                have n0_ := Aside0.mk (Kd.R_elder' (by (with_reducible repeat (first | apply Kd.R_alloc | apply Kd.R_drewN | apply Kd.R_drew)); exact HO688.out) (Kd.R_base ho0) hb)
                have n1_ := Aside0.mk (Kd.R_lower (Kd.R_new' ho0 (Kd.R_lt (by (with_reducible repeat (first | apply Kd.R_alloc | apply Kd.R_drewN | apply Kd.R_drew)); exact HO688.out))) (below_size (by repeat (first | (with_reducible first | exact HB.out | apply below_alloc | apply pw_below_drewN | apply below_drew1 | refine below_set ?_ GE684.out | refine below_set ?_ GE685.out | refine below_set ?_ GE692.out) | exact HB.out))))
                have n2_ := Aside0.mk (blk_below (g := gb684) (o := .cells #[.slice A0_0 l0_0.length c0_0, .slice A0_1 l0_1.length c0_1] 36 (0, 0)) (by (with_reducible repeat (first | refine blk_drewN ?_ _ | refine blk_drew ?_ | refine blk_alloc ?_ _)); exact BK684.out) hb)
                have n3_ := Aside0.mk (blk_below (g := gb685) (o := .cells #[.slice none 0 0, .slice none 0 0] 36 (0, 0)) (by (with_reducible repeat (first | refine blk_drewN ?_ _ | refine blk_drew ?_ | refine blk_alloc ?_ _)); exact BK685.out) hb)
                have n4_ := Aside0.mk (blk_below (g := gb692) (o := .cells #[.slice none 0 0, .slice none 0 0] 36 (0, 0)) (by (with_reducible repeat (first | refine blk_drewN ?_ _ | refine blk_drew ?_ | refine blk_alloc ?_ _)); exact BK692.out) hb)
                have n5_ := Aside0.mk (below_step (by repeat (first | (with_reducible first | exact HB.out | apply below_alloc | apply pw_below_drewN | apply below_drew1 | refine below_set ?_ GE684.out | refine below_set ?_ GE685.out | refine below_set ?_ GE692.out) | exact HB.out)) hb)
                clear HO688
                clear BK684
                clear BK685
                clear BK692
                clear HB
                have HO688 := n0_
                have HO691 := n1_
                have BK684 := n2_
                have BK685 := n3_
                have BK692 := n4_
                have HB := n5_
                clear n0_ n1_ n2_ n3_ n4_ n5_
                (try clear hb)
                (try clear hb2)
                (try clear hk)
                (try clear hi)
                (try clear ho0)
                obtain ⟨Ao33, co33, eo33⟩ := Kd.R_slice HO691.out
                (first | subst eo33 | (injection eo33 with f1_ f2_ f3_; have f4_ := f1_.symm; have f5_ := f3_.symm; clear f1_ f2_ f3_; subst f4_; subst f5_))
                obtain ⟨Ao34, co34, eo34⟩ := Kd.R_slice HO688.out
                (first | subst eo34 | (injection eo34 with f1_ f2_ f3_; have f4_ := f1_.symm; have f5_ := f3_.symm; clear f1_ f2_ f3_; subst f4_; subst f5_))
                refine hK.out _ _ ⟨(blk_cell BK684.out 0).trans rfl, (blk_cell BK684.out 1).trans rfl⟩ (fun hHeld => ?_)
                clear hK K
                refine norm_ (a' := ?_) ?_ ?_
                rotate_left
                ·
                 show Act.put _ (some 16) _ = _
                 simp only [Act.put, List.setIfInBounds_toArray, List.set_cons_zero, List.set_cons_succ, i64_w, i32_w]
                 rfl
                refine pure_ (i := 6) (N := some 17) (v := ?_) (a' := ?_) #[true, true, true, true, true, true, true, true, false] rfl rfl (any_of HT_.out (by kernel_rfl)) (fun _ _ _ h => h) (Or.inl ⟨by rfl, ?_⟩) ?_ ?_
                rotate_left
                ·
                 intro w'
                 go_simp
                 with_reducible rfl
                rotate_left
                ·
                 simp only [Act.put, List.setIfInBounds_toArray, List.set_cons_zero, List.set_cons_succ, i64_w, i32_w]
                 rfl
                exact norm_ (by simp only [putAll, Act.put, List.setIfInBounds_toArray, List.set_cons_zero, List.set_cons_succ]) (hCont (.slice Ao34 t686.length co34, .slice Ao33 t689.length co33, gb692) _ ⟨hHeld, (by (with_reducible repeat (first | apply Kd.R_alloc | apply Kd.R_drewN | apply Kd.R_drew)); exact Kd.R_mono HO688.out (fun _ hk => hk.2)), (by (with_reducible repeat (first | apply Kd.R_alloc | apply Kd.R_drewN | apply Kd.R_drew)); exact Kd.R_mono HO691.out (fun _ hk => hk.2)), (by (with_reducible repeat (first | refine blk_drewN ?_ _ | refine blk_drew ?_ | refine blk_alloc ?_ _)); exact BK684.out), (by (with_reducible repeat (first | refine blk_drewN ?_ _ | refine blk_drew ?_ | refine blk_alloc ?_ _)); exact BK685.out), (by (with_reducible repeat (first | refine blk_drewN ?_ _ | refine blk_drew ?_ | refine blk_alloc ?_ _)); exact BK692.out), GW692.out, GE692.out, NB684_692.out, NB692_684.out, NB685_692.out, NB692_685.out, (by repeat (first | (with_reducible first | exact HB.out | apply below_alloc | apply pw_below_drewN | apply below_drew1 | refine below_set ?_ GE684.out | refine below_set ?_ GE685.out | refine below_set ?_ GE692.out) | exact HB.out))⟩)
              rintro ⟨v687, v690, gb692⟩ w35 ⟨hS_, h0_, h1_, h2_, h3_, h4_, h5_, h6_, h7_, h8_, h9_, h10_, h11_⟩
              have n0_ : Aside0 (Kd.R (Kd.int .i64) 3 w35 w.heap.size (fun k_ => some k_ ≠ (v690 : Value).ownBlock) v687 t686) := ⟨h0_⟩
              have n1_ : Aside0 (Kd.R (Kd.int .i64) 3 w35 w.heap.size (fun k_ => some k_ ≠ (v687 : Value).ownBlock) v690 t689) := ⟨h1_⟩
              have n2_ : Aside0 (w35.heap[gb684]? = some (.cells #[.slice A0_0 l0_0.length c0_0, .slice A0_1 l0_1.length c0_1] 36 (0, 0))) := ⟨h2_⟩
              have n3_ : Aside0 (w35.heap[gb685]? = some (.cells #[.slice none 0 0, .slice none 0 0] 36 (0, 0))) := ⟨h3_⟩
              have n4_ : Aside0 (w35.heap[gb692]? = some (.cells #[.slice none 0 0, .slice none 0 0] 36 (0, 0))) := ⟨h4_⟩
              have n5_ : Aside0 (w.heap.size ≤ gb692) := ⟨h5_⟩
              have n6_ : Aside0 (w.heap.size ≤ gb692) := ⟨h6_⟩
              have n7_ : Aside0 (gb684 ≠ gb692) := ⟨h7_⟩
              have n8_ : Aside0 (gb692 ≠ gb684) := ⟨h8_⟩
              have n9_ : Aside0 (gb685 ≠ gb692) := ⟨h9_⟩
              have n10_ : Aside0 (gb692 ≠ gb685) := ⟨h10_⟩
              have n11_ : Aside0 (Below w.heap.size w w35) := ⟨h11_⟩
              clear BK684
              clear BK685
              clear HB
              clear h0_ h1_ h2_ h3_ h4_ h5_ h6_ h7_ h8_ h9_ h10_ h11_
              have HO688 := n0_
              have HO691 := n1_
              have BK684 := n2_
              have BK685 := n3_
              have BK692 := n4_
              have GW692 := n5_
              have GE692 := n6_
              have NB684_692 := n7_
              have NB692_684 := n8_
              have NB685_692 := n9_
              have NB692_685 := n10_
              have HB := n11_
              clear n0_ n1_ n2_ n3_ n4_ n5_ n6_ n7_ n8_ n9_ n10_ n11_
              have hHeld : w35.cell? ⟨gb684, 0, none⟩ = some (.slice A0_0 l0_0.length c0_0) ∧ w35.cell? ⟨gb684, 1, none⟩ = some (.slice A0_1 l0_1.length c0_1) := hS_
              obtain ⟨Ao36, co36, eo36⟩ := Kd.R_slice HO691.out
              (first | subst eo36 | (injection eo36 with f1_ f2_ f3_; have f4_ := f1_.symm; have f5_ := f3_.symm; clear f1_ f2_ f3_; subst f4_; subst f5_))
              obtain ⟨Ao37, co37, eo37⟩ := Kd.R_slice HO688.out
              (first | subst eo37 | (injection eo37 with f1_ f2_ f3_; have f4_ := f1_.symm; have f5_ := f3_.symm; clear f1_ f2_ f3_; subst f4_; subst f5_))
              refine norm_ (a' := ?_) ?_ ?_
              rotate_left
              ·
               simp only [putAll, Act.put, List.setIfInBounds_toArray, List.set_cons_zero, List.set_cons_succ]
               rfl
              refine one_ (i := 8) (N := none) #[true, true, true, true, true, true, true, true, true] rfl rfl (one_of HT_.out (by kernel_rfl)) (by decide) (fun K hK => ?_)
              have hs38 : w35.cell? ⟨gb692, 0, none⟩ = some (.slice none 0 0) := (blk_cell BK692.out 0).trans rfl
              have hfs38 := blk_frozen BK692.out 0
              have hns38_0 := NB684_692.out
              have hns38_1 := NB685_692.out
              have hms38_0 := NB692_684.out
              have hms38_1 := NB692_685.out
              have hs39 : w35.cell? ⟨gb692, 1, none⟩ = some (.slice none 0 0) := (blk_cell BK692.out 1).trans rfl
              have hfs39 := blk_frozen BK692.out 1
              have hns39_0 := NB684_692.out
              have hns39_1 := NB685_692.out
              have hms39_0 := NB692_684.out
              have hms39_1 := NB692_685.out
              refine skip_ (w1 := ?_) (by rfl) rfl ?_ ?_
              rotate_left
              ·
               go_simp
               rfl
              refine hK.out _ _ ⟨((cell_far (p := ⟨gb692, _, none⟩) NB684_692.out _).trans (((cell_far (p := ⟨gb692, _, none⟩) NB684_692.out _).trans (hHeld.1)))), ((cell_far (p := ⟨gb692, _, none⟩) NB684_692.out _).trans (((cell_far (p := ⟨gb692, _, none⟩) NB684_692.out _).trans (hHeld.2))))⟩ (fun hHeld => ?_)
              clear hK K
              refine done_ (done_of HT_.out (by kernel_rfl)) ?_
              try go_wp2
              have n0_ : Aside0 (Kd.R (Kd.int .i64) 3 ((w35.setCell ⟨gb692, 0, none⟩ (.slice Ao37 t686.length co37)).setCell ⟨gb692, 1, none⟩ (.slice Ao36 t689.length co36)) w.heap.size (fun k_ => some k_ ≠ (.slice Ao36 t689.length co36 : Value).ownBlock) (.slice Ao37 t686.length co37) t686) := ⟨by (with_reducible repeat (first | apply Kd.R_alloc | apply Kd.R_drewN | apply Kd.R_drew)); exact Kd.R_mono (Kd.R_far (p := ⟨gb692, 1, none⟩) (Kd.R_far (p := ⟨gb692, 0, none⟩) (Kd.R_types HO688.out BK692.out (by decide)) (fun _ hk => hk.2) (.slice Ao37 t686.length co37)) (fun _ hk => hk.2) (.slice Ao36 t689.length co36)) (fun _ hk => hk.1)⟩
              have n1_ : Aside0 (Kd.R (Kd.int .i64) 3 ((w35.setCell ⟨gb692, 0, none⟩ (.slice Ao37 t686.length co37)).setCell ⟨gb692, 1, none⟩ (.slice Ao36 t689.length co36)) w.heap.size (fun k_ => some k_ ≠ (.slice Ao37 t686.length co37 : Value).ownBlock) (.slice Ao36 t689.length co36) t689) := ⟨by (with_reducible repeat (first | apply Kd.R_alloc | apply Kd.R_drewN | apply Kd.R_drew)); exact Kd.R_mono (Kd.R_far (p := ⟨gb692, 1, none⟩) (Kd.R_far (p := ⟨gb692, 0, none⟩) (Kd.R_types HO691.out BK692.out (by decide)) (fun _ hk => hk.2) (.slice Ao37 t686.length co37)) (fun _ hk => hk.2) (.slice Ao36 t689.length co36)) (fun _ hk => hk.1)⟩
              have n2_ : Aside0 (((w35.setCell ⟨gb692, 0, none⟩ (.slice Ao37 t686.length co37)).setCell ⟨gb692, 1, none⟩ (.slice Ao36 t689.length co36)).heap[gb684]? = some (.cells #[.slice A0_0 l0_0.length c0_0, .slice A0_1 l0_1.length c0_1] 36 (0, 0))) := ⟨by (with_reducible repeat (first | refine blk_drewN ?_ _ | refine blk_drew ?_ | refine blk_alloc ?_ _)); refine blk_far ?_ NB684_692.out _; (with_reducible repeat (first | refine blk_drewN ?_ _ | refine blk_drew ?_ | refine blk_alloc ?_ _)); refine blk_far ?_ NB684_692.out _; (with_reducible repeat (first | refine blk_drewN ?_ _ | refine blk_drew ?_ | refine blk_alloc ?_ _)); exact BK684.out⟩
              have n3_ : Aside0 (((w35.setCell ⟨gb692, 0, none⟩ (.slice Ao37 t686.length co37)).setCell ⟨gb692, 1, none⟩ (.slice Ao36 t689.length co36)).heap[gb685]? = some (.cells #[.slice none 0 0, .slice none 0 0] 36 (0, 0))) := ⟨by (with_reducible repeat (first | refine blk_drewN ?_ _ | refine blk_drew ?_ | refine blk_alloc ?_ _)); refine blk_far ?_ NB685_692.out _; (with_reducible repeat (first | refine blk_drewN ?_ _ | refine blk_drew ?_ | refine blk_alloc ?_ _)); refine blk_far ?_ NB685_692.out _; (with_reducible repeat (first | refine blk_drewN ?_ _ | refine blk_drew ?_ | refine blk_alloc ?_ _)); exact BK685.out⟩
              have n4_ : Aside0 (((w35.setCell ⟨gb692, 0, none⟩ (.slice Ao37 t686.length co37)).setCell ⟨gb692, 1, none⟩ (.slice Ao36 t689.length co36)).heap[gb692]? = some (.cells #[.slice Ao37 t686.length co37, .slice Ao36 t689.length co36] 36 (0, 0))) := ⟨by (with_reducible repeat (first | refine blk_drewN ?_ _ | refine blk_drew ?_ | refine blk_alloc ?_ _)); refine blk_put (cs := #[.slice Ao37 t686.length co37, .slice none 0 0]) ?_ 1 _ rfl; (with_reducible repeat (first | refine blk_drewN ?_ _ | refine blk_drew ?_ | refine blk_alloc ?_ _)); refine blk_put (cs := #[.slice none 0 0, .slice none 0 0]) ?_ 0 _ rfl; (with_reducible repeat (first | refine blk_drewN ?_ _ | refine blk_drew ?_ | refine blk_alloc ?_ _)); exact BK692.out⟩
              have n5_ : Aside0 (Below w.heap.size w ((w35.setCell ⟨gb692, 0, none⟩ (.slice Ao37 t686.length co37)).setCell ⟨gb692, 1, none⟩ (.slice Ao36 t689.length co36))) := ⟨by repeat (first | (with_reducible first | exact HB.out | apply below_alloc | apply pw_below_drewN | apply below_drew1 | refine below_set ?_ GE684.out | refine below_set ?_ GE685.out | refine below_set ?_ GE692.out) | exact HB.out)⟩
              (try clear HO688)
              (try clear HO691)
              (try clear BK684)
              (try clear BK685)
              (try clear BK692)
              (try clear HB)
              generalize ((w35.setCell ⟨gb692, 0, none⟩ (.slice Ao37 t686.length co37)).setCell ⟨gb692, 1, none⟩ (.slice Ao36 t689.length co36)) = w40 at n0_ n1_ n2_ n3_ n4_ n5_ ⊢
              have HO688 := n0_
              have HO691 := n1_
              have BK684 := n2_
              have BK685 := n3_
              have BK692 := n4_
              have HB := n5_
              clear n0_ n1_ n2_ n3_ n4_ n5_
              have n0_ := Aside0.mk (Kd.R_drew HO688.out)
              have n1_ := Aside0.mk (Kd.R_drew HO691.out)
              have n2_ := Aside0.mk (blk_drew BK684.out)
              have n3_ := Aside0.mk (blk_drew BK685.out)
              have n4_ := Aside0.mk (blk_drew BK692.out)
              have n5_ := Aside0.mk (below_drew1 HB.out)
              clear HO688
              clear HO691
              clear BK684
              clear BK685
              clear BK692
              clear HB
              have HO688 := n0_
              have HO691 := n1_
              have BK684 := n2_
              have BK685 := n3_
              have BK692 := n4_
              have HB := n5_
              clear n0_ n1_ n2_ n3_ n4_ n5_
              have p693 : 0 ≤ ((ji6) : Int) := of_decide_eq_true (by first | (with_reducible assumption) | assumption)
              have q693 : (ji6) < (l0_0.length : Int) := of_decide_eq_true (by first | (with_reducible assumption) | assumption)
              obtain ⟨ad693, e693, hx693_0⟩ := Kd.at_int HR0_0.out (ji6) p693 q693
              have hw693_0 := hx693_0
              cases e693
              replace hx693_0 := (HB.out.cell (World.block_lt_of_cell? w _ hx693_0)).trans hx693_0
              replace p693 := eq_true p693
              replace q693 := eq_true q693
              have p11 : 0 ≤ (a1 : Int) := of_decide_eq_true (by first | (with_reducible assumption) | assumption)
              have q11 : (a1 : Int) < ((t686.length : Int) : Int) := of_decide_eq_true (by first | (with_reducible assumption) | assumption)
              obtain ⟨go11, co11, eo11, gb11, gl11, cl11, HG11⟩ := Kd.R_form HO688.out (by omega)
              (first | cases eo11 | (injection eo11 with ea_ en_ ec_; (first | subst ea_ | (injection ea_ with ea_; subst ea_)); subst ec_; clear en_))
              have GB11 := Aside0.mk gb11
              have GG11 := Aside0.mk HG11
              clear gb11 gl11 HG11
              obtain ⟨hx11_0, hf11_0⟩ := Kd.R_celln 0 HO688.out (a1 : Int) p11 q11
              replace p11 := eq_true p11
              replace q11 := eq_true q11
              have HP42 := Kd.R_putn HO688.out (a1 : Int) (rd l0_0 (ji6))
              rw [← Ny694.out] at HP42
              have HQ42 := Aside0.mk HP42
              clear HP42
              refine start_ (n := 10) (S := fun w' => w'.cell? ⟨gb692, 0, none⟩ = some (.slice (some ⟨go11, 0, none⟩) t686.length co37) ∧ w'.cell? ⟨gb692, 1, none⟩ = some (.slice Ao36 t689.length co36) ∧ w'.cell? ⟨gb684, 0, none⟩ = some (.slice (some ad693) l0_0.length c0_0) ∧ w'.cell? ⟨gb684, 1, none⟩ = some (.slice A0_1 l0_1.length c0_1) ∧ w'.cell? (ad693.add ((ji6)).toNat) = some (.int .i64 (rd l0_0 (ji6)))) (ds := [9]) #[false, false, false, false, false, false, false, false, false, false] (by kernel_rfl) rfl rfl ⟨(blk_cell BK692.out 0).trans rfl, (blk_cell BK692.out 1).trans rfl, (blk_cell BK684.out 0).trans rfl, (blk_cell BK684.out 1).trans rfl, ((HB.out.cell (World.block_lt_of_cell? w _ hw693_0)).trans hw693_0)⟩ (fun hHeld => ?_); refine with_tabW spec_poTop.tab4 spec_poTop.bits4 (fun HT_ HW_ => ?_)
              generalize w40.drew = w41 at HO688 HO691 BK684 BK685 BK692 HB GG11 HQ42 hf11_0 hx11_0 hx693_0 hHeld ⊢
              refine pure_ (i := 0) (N := some 22) (v := ?_) (a' := ?_) #[true, false, false, false, false, false, false, false, false, false] rfl rfl (any_of HT_.out (by kernel_rfl)) (fun _ _ _ h => h) (Or.inl ⟨by rfl, ?_⟩) ?_ ?_
              rotate_left
              ·
               intro w'
               go_simp
               with_reducible rfl
              rotate_left
              ·
               simp only [Act.put, List.setIfInBounds_toArray, List.set_cons_zero, List.set_cons_succ, i64_w, i32_w]
               rfl
              refine pure_ (i := 2) (N := some 24) (v := ?_) (a' := ?_) #[true, false, true, false, false, false, false, false, false, false] rfl rfl (any_of HT_.out (by kernel_rfl)) (fun _ _ _ h => h) (Or.inl ⟨by rfl, ?_⟩) ?_ ?_
              rotate_left
              ·
               intro w'
               go_simp
               with_reducible rfl
              rotate_left
              ·
               simp only [Act.put, List.setIfInBounds_toArray, List.set_cons_zero, List.set_cons_succ, i64_w, i32_w]
               rfl
              refine pure_ (i := 3) (N := some 25) (v := ?_) (a' := ?_) #[true, false, true, true, false, false, false, false, false, false] rfl rfl (any_of HT_.out (by kernel_rfl)) (fun _ _ _ h => h) (Or.inl ⟨by rfl, ?_⟩) ?_ ?_
              rotate_left
              ·
               intro w'
               go_simp
               with_reducible rfl
              rotate_left
              ·
               simp only [Act.put, List.setIfInBounds_toArray, List.set_cons_zero, List.set_cons_succ, i64_w, i32_w]
               rfl
              refine pure_ (i := 5) (N := some 27) (v := ?_) (a' := ?_) #[true, false, true, true, false, true, false, false, false, false] rfl rfl (any_of HT_.out (by kernel_rfl)) (fun _ _ _ h => h) (Or.inl ⟨by rfl, ?_⟩) ?_ ?_
              rotate_left
              ·
               intro w'
               go_simp
               with_reducible rfl
              rotate_left
              ·
               simp only [Act.put, List.setIfInBounds_toArray, List.set_cons_zero, List.set_cons_succ, i64_w, i32_w]
               rfl
              refine take_ (i := 1) (N := some 23) (v := ?_) (a' := ?_) #[true, true, true, true, false, true, false, false, false, false] rfl rfl (take_ofW HT_.out HW_.out (by kernel_rfl)) (fun _ _ _ h => h) (Or.inl ⟨by rfl, ?_⟩) hHeld ?_ ?_
              rotate_left
              ·
               rintro w' ⟨s0, s1, s2, s3, s4⟩
               go_simp
               with_reducible rfl
              rotate_left
              ·
               simp only [Act.put, List.setIfInBounds_toArray, List.set_cons_zero, List.set_cons_succ, i64_w, i32_w]
               rfl
              refine take_ (i := 4) (N := some 26) (v := ?_) (a' := ?_) #[true, true, true, true, true, true, false, false, false, false] rfl rfl (take_ofW HT_.out HW_.out (by kernel_rfl)) (fun _ _ _ h => h) (Or.inl ⟨by rfl, ?_⟩) hHeld ?_ ?_
              rotate_left
              ·
               rintro w' ⟨s0, s1, s2, s3, s4⟩
               go_simp
               with_reducible rfl
              rotate_left
              ·
               simp only [Act.put, List.setIfInBounds_toArray, List.set_cons_zero, List.set_cons_succ, i64_w, i32_w]
               rfl
              refine pure_ (i := 6) (N := some 28) (v := ?_) (a' := ?_) #[true, true, true, true, true, true, true, false, false, false] rfl rfl (any_of HT_.out (by kernel_rfl)) (fun _ _ _ h => h) (Or.inl ⟨by rfl, ?_⟩) ?_ ?_
              rotate_left
              ·
               intro w'
               go_simp
               with_reducible rfl
              rotate_left
              ·
               simp only [Act.put, List.setIfInBounds_toArray, List.set_cons_zero, List.set_cons_succ, i64_w, i32_w]
               rfl
              refine take_ (i := 7) (N := some 29) (v := ?_) (a' := ?_) #[true, true, true, true, true, true, true, true, false, false] rfl rfl (take_ofW HT_.out HW_.out (by kernel_rfl)) (fun _ _ _ h => h) (Or.inl ⟨by rfl, ?_⟩) hHeld ?_ ?_
              rotate_left
              ·
               rintro w' ⟨s0, s1, s2, s3, s4⟩
               go_simp
               with_reducible rfl
              rotate_left
              ·
               simp only [Act.put, List.setIfInBounds_toArray, List.set_cons_zero, List.set_cons_succ, i64_w, i32_w]
               rfl
              refine pure_ (i := 8) (N := some 30) (v := ?_) (a' := ?_) #[true, true, true, true, true, true, true, true, true, false] rfl rfl (any_of HT_.out (by kernel_rfl)) (fun _ _ _ h => h) (Or.inl ⟨by rfl, ?_⟩) ?_ ?_
              rotate_left
              ·
               intro w'
               go_simp
               with_reducible rfl
              rotate_left
              ·
               simp only [Act.put, List.setIfInBounds_toArray, List.set_cons_zero, List.set_cons_succ, i64_w, i32_w]
               rfl
              refine last_ (i := 9) (N := none) #[true, true, true, true, true, true, true, true, true, true] rfl rfl (one_of HT_.out (by kernel_rfl)) (by decide) (fun K hK => ?_)
              refine skip_ (w1 := ?_) (by rfl) rfl ?_ ?_
              rotate_left
              ·
               go_simp
               rfl
              refine hK.out _ _ ?_
              clear hK K
              refine done_ (done_of HT_.out (by kernel_rfl)) ?_
              have n0_ : Aside0 (Kd.R (Kd.int .i64) 3 (w41.setCell ⟨go11, (a1 : Int).toNat, none⟩ (.int .i64 (rd l0_0 (ji6)))) w.heap.size (fun k_ => some k_ ≠ (.slice Ao36 t689.length co36 : Value).ownBlock) (.slice (some ⟨go11, 0, none⟩) t686.length co37) y694) := ⟨by (with_reducible repeat (first | apply Kd.R_alloc | apply Kd.R_drewN | apply Kd.R_drew)); exact HQ42.out⟩
              have n1_ : Aside0 (Kd.R (Kd.int .i64) 3 (w41.setCell ⟨go11, (a1 : Int).toNat, none⟩ (.int .i64 (rd l0_0 (ji6)))) w.heap.size (fun k_ => some k_ ≠ (.slice (some ⟨go11, 0, none⟩) t686.length co37 : Value).ownBlock) (.slice Ao36 t689.length co36) t689) := ⟨by (with_reducible repeat (first | apply Kd.R_alloc | apply Kd.R_drewN | apply Kd.R_drew)); exact Kd.R_mono (Kd.R_far (p := ⟨go11, (a1 : Int).toNat, none⟩) (Kd.R_mono HO691.out (fun k_ hk => (⟨hk, fun e_ => hk (by rw [e_]; rfl)⟩ : _ ∧ k_ ≠ go11))) (fun _ hk => hk.2) (.int .i64 (rd l0_0 (ji6)))) (fun _ hk => hk.1)⟩
              have n2_ : Aside0 ((w41.setCell ⟨go11, (a1 : Int).toNat, none⟩ (.int .i64 (rd l0_0 (ji6)))).heap[gb684]? = some (.cells #[.slice (some ad693) l0_0.length c0_0, .slice A0_1 l0_1.length c0_1] 36 (0, 0))) := ⟨by (with_reducible repeat (first | refine blk_drewN ?_ _ | refine blk_drew ?_ | refine blk_alloc ?_ _)); refine blk_far ?_ (by have h_ := Kd.R_ne HO688.out BK684.out (by decide); intro e_; exact h_ (by rw [e_]; rfl)) _; (with_reducible repeat (first | refine blk_drewN ?_ _ | refine blk_drew ?_ | refine blk_alloc ?_ _)); exact BK684.out⟩
              have n3_ : Aside0 ((w41.setCell ⟨go11, (a1 : Int).toNat, none⟩ (.int .i64 (rd l0_0 (ji6)))).heap[gb685]? = some (.cells #[.slice none 0 0, .slice none 0 0] 36 (0, 0))) := ⟨by (with_reducible repeat (first | refine blk_drewN ?_ _ | refine blk_drew ?_ | refine blk_alloc ?_ _)); refine blk_far ?_ (by have h_ := Kd.R_ne HO688.out BK685.out (by decide); intro e_; exact h_ (by rw [e_]; rfl)) _; (with_reducible repeat (first | refine blk_drewN ?_ _ | refine blk_drew ?_ | refine blk_alloc ?_ _)); exact BK685.out⟩
              have n4_ : Aside0 ((w41.setCell ⟨go11, (a1 : Int).toNat, none⟩ (.int .i64 (rd l0_0 (ji6)))).heap[gb692]? = some (.cells #[.slice (some ⟨go11, 0, none⟩) t686.length co37, .slice Ao36 t689.length co36] 36 (0, 0))) := ⟨by (with_reducible repeat (first | refine blk_drewN ?_ _ | refine blk_drew ?_ | refine blk_alloc ?_ _)); refine blk_far ?_ (by have h_ := Kd.R_ne HO688.out BK692.out (by decide); intro e_; exact h_ (by rw [e_]; rfl)) _; (with_reducible repeat (first | refine blk_drewN ?_ _ | refine blk_drew ?_ | refine blk_alloc ?_ _)); exact BK692.out⟩
              have n5_ : Aside0 (Below w.heap.size w (w41.setCell ⟨go11, (a1 : Int).toNat, none⟩ (.int .i64 (rd l0_0 (ji6))))) := ⟨by repeat (first | (with_reducible first | exact HB.out | apply below_alloc | apply pw_below_drewN | apply below_drew1 | refine below_set ?_ GB11.out | refine below_set ?_ GE684.out | refine below_set ?_ GE685.out | refine below_set ?_ GE692.out) | exact HB.out)⟩
              (try clear HO688)
              (try clear HO691)
              (try clear BK684)
              (try clear BK685)
              (try clear BK692)
              (try clear HB)
              generalize (w41.setCell ⟨go11, (a1 : Int).toNat, none⟩ (.int .i64 (rd l0_0 (ji6)))) = w43 at n0_ n1_ n2_ n3_ n4_ n5_ ⊢
              have HO688 := n0_
              have HO691 := n1_
              have BK684 := n2_
              have BK685 := n3_
              have BK692 := n4_
              have HB := n5_
              clear n0_ n1_ n2_ n3_ n4_ n5_
              try go_wp2
              have n0_ := Aside0.mk (Kd.R_drew HO688.out)
              have n1_ := Aside0.mk (Kd.R_drew HO691.out)
              have n2_ := Aside0.mk (blk_drew BK684.out)
              have n3_ := Aside0.mk (blk_drew BK685.out)
              have n4_ := Aside0.mk (blk_drew BK692.out)
              have n5_ := Aside0.mk (below_drew1 HB.out)
              clear HO688
              clear HO691
              clear BK684
              clear BK685
              clear BK692
              clear HB
              have HO688 := n0_
              have HO691 := n1_
              have BK684 := n2_
              have BK685 := n3_
              have BK692 := n4_
              have HB := n5_
              clear n0_ n1_ n2_ n3_ n4_ n5_
              have p695 : 0 ≤ (a1 : Int) := of_decide_eq_true (by first | (with_reducible assumption) | assumption)
              have q695 : a1 < (l0_0.length : Int) := of_decide_eq_true (by first | (with_reducible assumption) | assumption)
              obtain ⟨ad695, e695, hx695_0⟩ := Kd.at_int HR0_0.out a1 p695 q695
              have hw695_0 := hx695_0
              obtain rfl : ad693 = ad695 := (by injection e695)
              replace hx695_0 := (HB.out.cell (World.block_lt_of_cell? w _ hx695_0)).trans hx695_0
              replace p695 := eq_true p695
              replace q695 := eq_true q695
              have p14 : 0 ≤ ((ji6) : Int) := of_decide_eq_true (by first | (with_reducible assumption) | assumption)
              have q14 : ((ji6) : Int) < ((t686.length : Int) : Int) := of_decide_eq_true (by first | (with_reducible assumption) | assumption)
              obtain ⟨hx14_0, hf14_0⟩ := Kd.R_celln 0 HO688.out ((ji6) : Int) p14 q14
              replace p14 := eq_true p14
              replace q14 := eq_true q14
              have HP45 := Kd.R_putn HO688.out ((ji6) : Int) (rd l0_0 a1)
              rw [← Ny696.out] at HP45
              have HQ45 := Aside0.mk HP45
              clear HP45
              refine start_ (n := 10) (S := fun w' => w'.cell? ⟨gb692, 0, none⟩ = some (.slice (some ⟨go11, 0, none⟩) t686.length co37) ∧ w'.cell? ⟨gb692, 1, none⟩ = some (.slice Ao36 t689.length co36) ∧ w'.cell? ⟨gb684, 0, none⟩ = some (.slice (some ad693) l0_0.length c0_0) ∧ w'.cell? ⟨gb684, 1, none⟩ = some (.slice A0_1 l0_1.length c0_1) ∧ w'.cell? (ad693.add (a1).toNat) = some (.int .i64 (rd l0_0 a1))) (ds := [9]) #[false, false, false, false, false, false, false, false, false, false] (by kernel_rfl) rfl rfl ⟨(blk_cell BK692.out 0).trans rfl, (blk_cell BK692.out 1).trans rfl, (blk_cell BK684.out 0).trans rfl, (blk_cell BK684.out 1).trans rfl, ((HB.out.cell (World.block_lt_of_cell? w _ hw695_0)).trans hw695_0)⟩ (fun hHeld => ?_); refine with_tabW spec_poTop.tab5 spec_poTop.bits5 (fun HT_ HW_ => ?_)
              generalize w43.drew = w44 at HO688 HO691 BK684 BK685 BK692 HB HQ45 hf14_0 hx14_0 hx695_0 hHeld ⊢
              refine pure_ (i := 0) (N := some 31) (v := ?_) (a' := ?_) #[true, false, false, false, false, false, false, false, false, false] rfl rfl (any_of HT_.out (by kernel_rfl)) (fun _ _ _ h => h) (Or.inl ⟨by rfl, ?_⟩) ?_ ?_
              rotate_left
              ·
               intro w'
               go_simp
               with_reducible rfl
              rotate_left
              ·
               simp only [Act.put, List.setIfInBounds_toArray, List.set_cons_zero, List.set_cons_succ, i64_w, i32_w]
               rfl
              refine pure_ (i := 2) (N := some 33) (v := ?_) (a' := ?_) #[true, false, true, false, false, false, false, false, false, false] rfl rfl (any_of HT_.out (by kernel_rfl)) (fun _ _ _ h => h) (Or.inl ⟨by rfl, ?_⟩) ?_ ?_
              rotate_left
              ·
               intro w'
               go_simp
               with_reducible rfl
              rotate_left
              ·
               simp only [Act.put, List.setIfInBounds_toArray, List.set_cons_zero, List.set_cons_succ, i64_w, i32_w]
               rfl
              refine pure_ (i := 3) (N := some 34) (v := ?_) (a' := ?_) #[true, false, true, true, false, false, false, false, false, false] rfl rfl (any_of HT_.out (by kernel_rfl)) (fun _ _ _ h => h) (Or.inl ⟨by rfl, ?_⟩) ?_ ?_
              rotate_left
              ·
               intro w'
               go_simp
               with_reducible rfl
              rotate_left
              ·
               simp only [Act.put, List.setIfInBounds_toArray, List.set_cons_zero, List.set_cons_succ, i64_w, i32_w]
               rfl
              refine pure_ (i := 5) (N := some 36) (v := ?_) (a' := ?_) #[true, false, true, true, false, true, false, false, false, false] rfl rfl (any_of HT_.out (by kernel_rfl)) (fun _ _ _ h => h) (Or.inl ⟨by rfl, ?_⟩) ?_ ?_
              rotate_left
              ·
               intro w'
               go_simp
               with_reducible rfl
              rotate_left
              ·
               simp only [Act.put, List.setIfInBounds_toArray, List.set_cons_zero, List.set_cons_succ, i64_w, i32_w]
               rfl
              refine take_ (i := 1) (N := some 32) (v := ?_) (a' := ?_) #[true, true, true, true, false, true, false, false, false, false] rfl rfl (take_ofW HT_.out HW_.out (by kernel_rfl)) (fun _ _ _ h => h) (Or.inl ⟨by rfl, ?_⟩) hHeld ?_ ?_
              rotate_left
              ·
               rintro w' ⟨s0, s1, s2, s3, s4⟩
               go_simp
               with_reducible rfl
              rotate_left
              ·
               simp only [Act.put, List.setIfInBounds_toArray, List.set_cons_zero, List.set_cons_succ, i64_w, i32_w]
               rfl
              refine take_ (i := 4) (N := some 35) (v := ?_) (a' := ?_) #[true, true, true, true, true, true, false, false, false, false] rfl rfl (take_ofW HT_.out HW_.out (by kernel_rfl)) (fun _ _ _ h => h) (Or.inl ⟨by rfl, ?_⟩) hHeld ?_ ?_
              rotate_left
              ·
               rintro w' ⟨s0, s1, s2, s3, s4⟩
               go_simp
               with_reducible rfl
              rotate_left
              ·
               simp only [Act.put, List.setIfInBounds_toArray, List.set_cons_zero, List.set_cons_succ, i64_w, i32_w]
               rfl
              refine pure_ (i := 6) (N := some 37) (v := ?_) (a' := ?_) #[true, true, true, true, true, true, true, false, false, false] rfl rfl (any_of HT_.out (by kernel_rfl)) (fun _ _ _ h => h) (Or.inl ⟨by rfl, ?_⟩) ?_ ?_
              rotate_left
              ·
               intro w'
               go_simp
               with_reducible rfl
              rotate_left
              ·
               simp only [Act.put, List.setIfInBounds_toArray, List.set_cons_zero, List.set_cons_succ, i64_w, i32_w]
               rfl
              refine take_ (i := 7) (N := some 38) (v := ?_) (a' := ?_) #[true, true, true, true, true, true, true, true, false, false] rfl rfl (take_ofW HT_.out HW_.out (by kernel_rfl)) (fun _ _ _ h => h) (Or.inl ⟨by rfl, ?_⟩) hHeld ?_ ?_
              rotate_left
              ·
               rintro w' ⟨s0, s1, s2, s3, s4⟩
               go_simp
               with_reducible rfl
              rotate_left
              ·
               simp only [Act.put, List.setIfInBounds_toArray, List.set_cons_zero, List.set_cons_succ, i64_w, i32_w]
               rfl
              refine pure_ (i := 8) (N := some 39) (v := ?_) (a' := ?_) #[true, true, true, true, true, true, true, true, true, false] rfl rfl (any_of HT_.out (by kernel_rfl)) (fun _ _ _ h => h) (Or.inl ⟨by rfl, ?_⟩) ?_ ?_
              rotate_left
              ·
               intro w'
               go_simp
               with_reducible rfl
              rotate_left
              ·
               simp only [Act.put, List.setIfInBounds_toArray, List.set_cons_zero, List.set_cons_succ, i64_w, i32_w]
               rfl
              refine last_ (i := 9) (N := none) #[true, true, true, true, true, true, true, true, true, true] rfl rfl (one_of HT_.out (by kernel_rfl)) (by decide) (fun K hK => ?_)
              refine skip_ (w1 := ?_) (by rfl) rfl ?_ ?_
              rotate_left
              ·
               go_simp
               rfl
              refine hK.out _ _ ?_
              clear hK K
              refine done_ (done_of HT_.out (by kernel_rfl)) ?_
              have n0_ : Aside0 (Kd.R (Kd.int .i64) 3 (w44.setCell ⟨go11, ((ji6) : Int).toNat, none⟩ (.int .i64 (rd l0_0 a1))) w.heap.size (fun k_ => some k_ ≠ (.slice Ao36 t689.length co36 : Value).ownBlock) (.slice (some ⟨go11, 0, none⟩) t686.length co37) y696) := ⟨by (with_reducible repeat (first | apply Kd.R_alloc | apply Kd.R_drewN | apply Kd.R_drew)); exact HQ45.out⟩
              have n1_ : Aside0 (Kd.R (Kd.int .i64) 3 (w44.setCell ⟨go11, ((ji6) : Int).toNat, none⟩ (.int .i64 (rd l0_0 a1))) w.heap.size (fun k_ => some k_ ≠ (.slice (some ⟨go11, 0, none⟩) t686.length co37 : Value).ownBlock) (.slice Ao36 t689.length co36) t689) := ⟨by (with_reducible repeat (first | apply Kd.R_alloc | apply Kd.R_drewN | apply Kd.R_drew)); exact Kd.R_mono (Kd.R_far (p := ⟨go11, ((ji6) : Int).toNat, none⟩) (Kd.R_mono HO691.out (fun k_ hk => (⟨hk, fun e_ => hk (by rw [e_]; rfl)⟩ : _ ∧ k_ ≠ go11))) (fun _ hk => hk.2) (.int .i64 (rd l0_0 a1))) (fun _ hk => hk.1)⟩
              have n2_ : Aside0 ((w44.setCell ⟨go11, ((ji6) : Int).toNat, none⟩ (.int .i64 (rd l0_0 a1))).heap[gb684]? = some (.cells #[.slice (some ad693) l0_0.length c0_0, .slice A0_1 l0_1.length c0_1] 36 (0, 0))) := ⟨by (with_reducible repeat (first | refine blk_drewN ?_ _ | refine blk_drew ?_ | refine blk_alloc ?_ _)); refine blk_far ?_ (by have h_ := Kd.R_ne HO688.out BK684.out (by decide); intro e_; exact h_ (by rw [e_]; rfl)) _; (with_reducible repeat (first | refine blk_drewN ?_ _ | refine blk_drew ?_ | refine blk_alloc ?_ _)); exact BK684.out⟩
              have n3_ : Aside0 ((w44.setCell ⟨go11, ((ji6) : Int).toNat, none⟩ (.int .i64 (rd l0_0 a1))).heap[gb685]? = some (.cells #[.slice none 0 0, .slice none 0 0] 36 (0, 0))) := ⟨by (with_reducible repeat (first | refine blk_drewN ?_ _ | refine blk_drew ?_ | refine blk_alloc ?_ _)); refine blk_far ?_ (by have h_ := Kd.R_ne HO688.out BK685.out (by decide); intro e_; exact h_ (by rw [e_]; rfl)) _; (with_reducible repeat (first | refine blk_drewN ?_ _ | refine blk_drew ?_ | refine blk_alloc ?_ _)); exact BK685.out⟩
              have n4_ : Aside0 ((w44.setCell ⟨go11, ((ji6) : Int).toNat, none⟩ (.int .i64 (rd l0_0 a1))).heap[gb692]? = some (.cells #[.slice (some ⟨go11, 0, none⟩) t686.length co37, .slice Ao36 t689.length co36] 36 (0, 0))) := ⟨by (with_reducible repeat (first | refine blk_drewN ?_ _ | refine blk_drew ?_ | refine blk_alloc ?_ _)); refine blk_far ?_ (by have h_ := Kd.R_ne HO688.out BK692.out (by decide); intro e_; exact h_ (by rw [e_]; rfl)) _; (with_reducible repeat (first | refine blk_drewN ?_ _ | refine blk_drew ?_ | refine blk_alloc ?_ _)); exact BK692.out⟩
              have n5_ : Aside0 (Below w.heap.size w (w44.setCell ⟨go11, ((ji6) : Int).toNat, none⟩ (.int .i64 (rd l0_0 a1)))) := ⟨by repeat (first | (with_reducible first | exact HB.out | apply below_alloc | apply pw_below_drewN | apply below_drew1 | refine below_set ?_ GB11.out | refine below_set ?_ GE684.out | refine below_set ?_ GE685.out | refine below_set ?_ GE692.out) | exact HB.out)⟩
              (try clear HO688)
              (try clear HO691)
              (try clear BK684)
              (try clear BK685)
              (try clear BK692)
              (try clear HB)
              generalize (w44.setCell ⟨go11, ((ji6) : Int).toNat, none⟩ (.int .i64 (rd l0_0 a1))) = w46 at n0_ n1_ n2_ n3_ n4_ n5_ ⊢
              have HO688 := n0_
              have HO691 := n1_
              have BK684 := n2_
              have BK685 := n3_
              have BK692 := n4_
              have HB := n5_
              clear n0_ n1_ n2_ n3_ n4_ n5_
              try go_wp2
              have n0_ := Aside0.mk (Kd.R_drew HO688.out)
              have n1_ := Aside0.mk (Kd.R_drew HO691.out)
              have n2_ := Aside0.mk (blk_drew BK684.out)
              have n3_ := Aside0.mk (blk_drew BK685.out)
              have n4_ := Aside0.mk (blk_drew BK692.out)
              have n5_ := Aside0.mk (below_drew1 HB.out)
              clear HO688
              clear HO691
              clear BK684
              clear BK685
              clear BK692
              clear HB
              have HO688 := n0_
              have HO691 := n1_
              have BK684 := n2_
              have BK685 := n3_
              have BK692 := n4_
              have HB := n5_
              clear n0_ n1_ n2_ n3_ n4_ n5_
              have p697 : 0 ≤ ((ji6) : Int) := of_decide_eq_true (by first | (with_reducible assumption) | assumption)
              have q697 : (ji6) < (l0_1.length : Int) := of_decide_eq_true (by first | (with_reducible assumption) | assumption)
              obtain ⟨ad697, e697, hx697_0⟩ := Kd.at_int HR0_1.out (ji6) p697 q697
              have hw697_0 := hx697_0
              cases e697
              replace hx697_0 := (HB.out.cell (World.block_lt_of_cell? w _ hx697_0)).trans hx697_0
              replace p697 := eq_true p697
              replace q697 := eq_true q697
              have p17 : 0 ≤ (a1 : Int) := of_decide_eq_true (by first | (with_reducible assumption) | assumption)
              have q17 : (a1 : Int) < ((t689.length : Int) : Int) := of_decide_eq_true (by first | (with_reducible assumption) | assumption)
              obtain ⟨go17, co17, eo17, gb17, gl17, cl17, HG17⟩ := Kd.R_form HO691.out (by omega)
              (first | cases eo17 | (injection eo17 with ea_ en_ ec_; (first | subst ea_ | (injection ea_ with ea_; subst ea_)); subst ec_; clear en_))
              have GB17 := Aside0.mk gb17
              have GG17 := Aside0.mk HG17
              clear gb17 gl17 HG17
              obtain ⟨hx17_0, hf17_0⟩ := Kd.R_celln 0 HO691.out (a1 : Int) p17 q17
              replace p17 := eq_true p17
              replace q17 := eq_true q17
              have HP48 := Kd.R_putn HO691.out (a1 : Int) (rd l0_1 (ji6))
              rw [← Ny698.out] at HP48
              have HQ48 := Aside0.mk HP48
              clear HP48
              refine start_ (n := 10) (S := fun w' => w'.cell? ⟨gb692, 0, none⟩ = some (.slice (some ⟨go11, 0, none⟩) t686.length co37) ∧ w'.cell? ⟨gb692, 1, none⟩ = some (.slice (some ⟨go17, 0, none⟩) t689.length co36) ∧ w'.cell? ⟨gb684, 0, none⟩ = some (.slice (some ad693) l0_0.length c0_0) ∧ w'.cell? ⟨gb684, 1, none⟩ = some (.slice (some ad697) l0_1.length c0_1) ∧ w'.cell? (ad697.add ((ji6)).toNat) = some (.int .i64 (rd l0_1 (ji6)))) (ds := [9]) #[false, false, false, false, false, false, false, false, false, false] (by kernel_rfl) rfl rfl ⟨(blk_cell BK692.out 0).trans rfl, (blk_cell BK692.out 1).trans rfl, (blk_cell BK684.out 0).trans rfl, (blk_cell BK684.out 1).trans rfl, ((HB.out.cell (World.block_lt_of_cell? w _ hw697_0)).trans hw697_0)⟩ (fun hHeld => ?_); refine with_tabW spec_poTop.tab6 spec_poTop.bits6 (fun HT_ HW_ => ?_)
              generalize w46.drew = w47 at HO688 HO691 BK684 BK685 BK692 HB GG17 HQ48 hf17_0 hx17_0 hx697_0 hHeld ⊢
              refine pure_ (i := 0) (N := some 40) (v := ?_) (a' := ?_) #[true, false, false, false, false, false, false, false, false, false] rfl rfl (any_of HT_.out (by kernel_rfl)) (fun _ _ _ h => h) (Or.inl ⟨by rfl, ?_⟩) ?_ ?_
              rotate_left
              ·
               intro w'
               go_simp
               with_reducible rfl
              rotate_left
              ·
               simp only [Act.put, List.setIfInBounds_toArray, List.set_cons_zero, List.set_cons_succ, i64_w, i32_w]
               rfl
              refine pure_ (i := 2) (N := some 42) (v := ?_) (a' := ?_) #[true, false, true, false, false, false, false, false, false, false] rfl rfl (any_of HT_.out (by kernel_rfl)) (fun _ _ _ h => h) (Or.inl ⟨by rfl, ?_⟩) ?_ ?_
              rotate_left
              ·
               intro w'
               go_simp
               with_reducible rfl
              rotate_left
              ·
               simp only [Act.put, List.setIfInBounds_toArray, List.set_cons_zero, List.set_cons_succ, i64_w, i32_w]
               rfl
              refine pure_ (i := 3) (N := some 43) (v := ?_) (a' := ?_) #[true, false, true, true, false, false, false, false, false, false] rfl rfl (any_of HT_.out (by kernel_rfl)) (fun _ _ _ h => h) (Or.inl ⟨by rfl, ?_⟩) ?_ ?_
              rotate_left
              ·
               intro w'
               go_simp
               with_reducible rfl
              rotate_left
              ·
               simp only [Act.put, List.setIfInBounds_toArray, List.set_cons_zero, List.set_cons_succ, i64_w, i32_w]
               rfl
              refine pure_ (i := 5) (N := some 45) (v := ?_) (a' := ?_) #[true, false, true, true, false, true, false, false, false, false] rfl rfl (any_of HT_.out (by kernel_rfl)) (fun _ _ _ h => h) (Or.inl ⟨by rfl, ?_⟩) ?_ ?_
              rotate_left
              ·
               intro w'
               go_simp
               with_reducible rfl
              rotate_left
              ·
               simp only [Act.put, List.setIfInBounds_toArray, List.set_cons_zero, List.set_cons_succ, i64_w, i32_w]
               rfl
              refine take_ (i := 1) (N := some 41) (v := ?_) (a' := ?_) #[true, true, true, true, false, true, false, false, false, false] rfl rfl (take_ofW HT_.out HW_.out (by kernel_rfl)) (fun _ _ _ h => h) (Or.inl ⟨by rfl, ?_⟩) hHeld ?_ ?_
              rotate_left
              ·
               rintro w' ⟨s0, s1, s2, s3, s4⟩
               go_simp
               with_reducible rfl
              rotate_left
              ·
               simp only [Act.put, List.setIfInBounds_toArray, List.set_cons_zero, List.set_cons_succ, i64_w, i32_w]
               rfl
              refine take_ (i := 4) (N := some 44) (v := ?_) (a' := ?_) #[true, true, true, true, true, true, false, false, false, false] rfl rfl (take_ofW HT_.out HW_.out (by kernel_rfl)) (fun _ _ _ h => h) (Or.inl ⟨by rfl, ?_⟩) hHeld ?_ ?_
              rotate_left
              ·
               rintro w' ⟨s0, s1, s2, s3, s4⟩
               go_simp
               with_reducible rfl
              rotate_left
              ·
               simp only [Act.put, List.setIfInBounds_toArray, List.set_cons_zero, List.set_cons_succ, i64_w, i32_w]
               rfl
              refine pure_ (i := 6) (N := some 46) (v := ?_) (a' := ?_) #[true, true, true, true, true, true, true, false, false, false] rfl rfl (any_of HT_.out (by kernel_rfl)) (fun _ _ _ h => h) (Or.inl ⟨by rfl, ?_⟩) ?_ ?_
              rotate_left
              ·
               intro w'
               go_simp
               with_reducible rfl
              rotate_left
              ·
               simp only [Act.put, List.setIfInBounds_toArray, List.set_cons_zero, List.set_cons_succ, i64_w, i32_w]
               rfl
              refine take_ (i := 7) (N := some 47) (v := ?_) (a' := ?_) #[true, true, true, true, true, true, true, true, false, false] rfl rfl (take_ofW HT_.out HW_.out (by kernel_rfl)) (fun _ _ _ h => h) (Or.inl ⟨by rfl, ?_⟩) hHeld ?_ ?_
              rotate_left
              ·
               rintro w' ⟨s0, s1, s2, s3, s4⟩
               go_simp
               with_reducible rfl
              rotate_left
              ·
               simp only [Act.put, List.setIfInBounds_toArray, List.set_cons_zero, List.set_cons_succ, i64_w, i32_w]
               rfl
              refine pure_ (i := 8) (N := some 48) (v := ?_) (a' := ?_) #[true, true, true, true, true, true, true, true, true, false] rfl rfl (any_of HT_.out (by kernel_rfl)) (fun _ _ _ h => h) (Or.inl ⟨by rfl, ?_⟩) ?_ ?_
              rotate_left
              ·
               intro w'
               go_simp
               with_reducible rfl
              rotate_left
              ·
               simp only [Act.put, List.setIfInBounds_toArray, List.set_cons_zero, List.set_cons_succ, i64_w, i32_w]
               rfl
              refine last_ (i := 9) (N := none) #[true, true, true, true, true, true, true, true, true, true] rfl rfl (one_of HT_.out (by kernel_rfl)) (by decide) (fun K hK => ?_)
              refine skip_ (w1 := ?_) (by rfl) rfl ?_ ?_
              rotate_left
              ·
               go_simp
               rfl
              refine hK.out _ _ ?_
              clear hK K
              refine done_ (done_of HT_.out (by kernel_rfl)) ?_
              have n0_ : Aside0 (Kd.R (Kd.int .i64) 3 (w47.setCell ⟨go17, (a1 : Int).toNat, none⟩ (.int .i64 (rd l0_1 (ji6)))) w.heap.size (fun k_ => some k_ ≠ (.slice (some ⟨go17, 0, none⟩) t689.length co36 : Value).ownBlock) (.slice (some ⟨go11, 0, none⟩) t686.length co37) y696) := ⟨by (with_reducible repeat (first | apply Kd.R_alloc | apply Kd.R_drewN | apply Kd.R_drew)); exact Kd.R_mono (Kd.R_far (p := ⟨go17, (a1 : Int).toNat, none⟩) (Kd.R_mono HO688.out (fun k_ hk => (⟨hk, fun e_ => hk (by rw [e_]; rfl)⟩ : _ ∧ k_ ≠ go17))) (fun _ hk => hk.2) (.int .i64 (rd l0_1 (ji6)))) (fun _ hk => hk.1)⟩
              have n1_ : Aside0 (Kd.R (Kd.int .i64) 3 (w47.setCell ⟨go17, (a1 : Int).toNat, none⟩ (.int .i64 (rd l0_1 (ji6)))) w.heap.size (fun k_ => some k_ ≠ (.slice (some ⟨go11, 0, none⟩) t686.length co37 : Value).ownBlock) (.slice (some ⟨go17, 0, none⟩) t689.length co36) y698) := ⟨by (with_reducible repeat (first | apply Kd.R_alloc | apply Kd.R_drewN | apply Kd.R_drew)); exact HQ48.out⟩
              have n2_ : Aside0 ((w47.setCell ⟨go17, (a1 : Int).toNat, none⟩ (.int .i64 (rd l0_1 (ji6)))).heap[gb684]? = some (.cells #[.slice (some ad693) l0_0.length c0_0, .slice (some ad697) l0_1.length c0_1] 36 (0, 0))) := ⟨by (with_reducible repeat (first | refine blk_drewN ?_ _ | refine blk_drew ?_ | refine blk_alloc ?_ _)); refine blk_far ?_ (by have h_ := Kd.R_ne HO691.out BK684.out (by decide); intro e_; exact h_ (by rw [e_]; rfl)) _; (with_reducible repeat (first | refine blk_drewN ?_ _ | refine blk_drew ?_ | refine blk_alloc ?_ _)); exact BK684.out⟩
              have n3_ : Aside0 ((w47.setCell ⟨go17, (a1 : Int).toNat, none⟩ (.int .i64 (rd l0_1 (ji6)))).heap[gb685]? = some (.cells #[.slice none 0 0, .slice none 0 0] 36 (0, 0))) := ⟨by (with_reducible repeat (first | refine blk_drewN ?_ _ | refine blk_drew ?_ | refine blk_alloc ?_ _)); refine blk_far ?_ (by have h_ := Kd.R_ne HO691.out BK685.out (by decide); intro e_; exact h_ (by rw [e_]; rfl)) _; (with_reducible repeat (first | refine blk_drewN ?_ _ | refine blk_drew ?_ | refine blk_alloc ?_ _)); exact BK685.out⟩
              have n4_ : Aside0 ((w47.setCell ⟨go17, (a1 : Int).toNat, none⟩ (.int .i64 (rd l0_1 (ji6)))).heap[gb692]? = some (.cells #[.slice (some ⟨go11, 0, none⟩) t686.length co37, .slice (some ⟨go17, 0, none⟩) t689.length co36] 36 (0, 0))) := ⟨by (with_reducible repeat (first | refine blk_drewN ?_ _ | refine blk_drew ?_ | refine blk_alloc ?_ _)); refine blk_far ?_ (by have h_ := Kd.R_ne HO691.out BK692.out (by decide); intro e_; exact h_ (by rw [e_]; rfl)) _; (with_reducible repeat (first | refine blk_drewN ?_ _ | refine blk_drew ?_ | refine blk_alloc ?_ _)); exact BK692.out⟩
              have n5_ : Aside0 (Below w.heap.size w (w47.setCell ⟨go17, (a1 : Int).toNat, none⟩ (.int .i64 (rd l0_1 (ji6))))) := ⟨by repeat (first | (with_reducible first | exact HB.out | apply below_alloc | apply pw_below_drewN | apply below_drew1 | refine below_set ?_ GB17.out | refine below_set ?_ GE684.out | refine below_set ?_ GE685.out | refine below_set ?_ GE692.out) | exact HB.out)⟩
              (try clear HO688)
              (try clear HO691)
              (try clear BK684)
              (try clear BK685)
              (try clear BK692)
              (try clear HB)
              generalize (w47.setCell ⟨go17, (a1 : Int).toNat, none⟩ (.int .i64 (rd l0_1 (ji6)))) = w49 at n0_ n1_ n2_ n3_ n4_ n5_ ⊢
              have HO688 := n0_
              have HO691 := n1_
              have BK684 := n2_
              have BK685 := n3_
              have BK692 := n4_
              have HB := n5_
              clear n0_ n1_ n2_ n3_ n4_ n5_
              try go_wp2
              have n0_ := Aside0.mk (Kd.R_drew HO688.out)
              have n1_ := Aside0.mk (Kd.R_drew HO691.out)
              have n2_ := Aside0.mk (blk_drew BK684.out)
              have n3_ := Aside0.mk (blk_drew BK685.out)
              have n4_ := Aside0.mk (blk_drew BK692.out)
              have n5_ := Aside0.mk (below_drew1 HB.out)
              clear HO688
              clear HO691
              clear BK684
              clear BK685
              clear BK692
              clear HB
              have HO688 := n0_
              have HO691 := n1_
              have BK684 := n2_
              have BK685 := n3_
              have BK692 := n4_
              have HB := n5_
              clear n0_ n1_ n2_ n3_ n4_ n5_
              have p699 : 0 ≤ (a1 : Int) := of_decide_eq_true (by first | (with_reducible assumption) | assumption)
              have q699 : a1 < (l0_1.length : Int) := of_decide_eq_true (by first | (with_reducible assumption) | assumption)
              obtain ⟨ad699, e699, hx699_0⟩ := Kd.at_int HR0_1.out a1 p699 q699
              have hw699_0 := hx699_0
              obtain rfl : ad697 = ad699 := (by injection e699)
              replace hx699_0 := (HB.out.cell (World.block_lt_of_cell? w _ hx699_0)).trans hx699_0
              replace p699 := eq_true p699
              replace q699 := eq_true q699
              have p20 : 0 ≤ ((ji6) : Int) := of_decide_eq_true (by first | (with_reducible assumption) | assumption)
              have q20 : ((ji6) : Int) < ((t689.length : Int) : Int) := of_decide_eq_true (by first | (with_reducible assumption) | assumption)
              obtain ⟨hx20_0, hf20_0⟩ := Kd.R_celln 0 HO691.out ((ji6) : Int) p20 q20
              replace p20 := eq_true p20
              replace q20 := eq_true q20
              have HP51 := Kd.R_putn HO691.out ((ji6) : Int) (rd l0_1 a1)
              rw [← Ny700.out] at HP51
              have HQ51 := Aside0.mk HP51
              clear HP51
              refine start_ (n := 10) (S := fun w' => w'.cell? ⟨gb692, 0, none⟩ = some (.slice (some ⟨go11, 0, none⟩) t686.length co37) ∧ w'.cell? ⟨gb692, 1, none⟩ = some (.slice (some ⟨go17, 0, none⟩) t689.length co36) ∧ w'.cell? ⟨gb684, 0, none⟩ = some (.slice (some ad693) l0_0.length c0_0) ∧ w'.cell? ⟨gb684, 1, none⟩ = some (.slice (some ad697) l0_1.length c0_1) ∧ w'.cell? (ad697.add (a1).toNat) = some (.int .i64 (rd l0_1 a1))) (ds := [9]) #[false, false, false, false, false, false, false, false, false, false] (by kernel_rfl) rfl rfl ⟨(blk_cell BK692.out 0).trans rfl, (blk_cell BK692.out 1).trans rfl, (blk_cell BK684.out 0).trans rfl, (blk_cell BK684.out 1).trans rfl, ((HB.out.cell (World.block_lt_of_cell? w _ hw699_0)).trans hw699_0)⟩ (fun hHeld => ?_); refine with_tabW spec_poTop.tab7 spec_poTop.bits7 (fun HT_ HW_ => ?_)
              generalize w49.drew = w50 at HO688 HO691 BK684 BK685 BK692 HB HQ51 hf20_0 hx20_0 hx699_0 hHeld ⊢
              refine pure_ (i := 0) (N := some 49) (v := ?_) (a' := ?_) #[true, false, false, false, false, false, false, false, false, false] rfl rfl (any_of HT_.out (by kernel_rfl)) (fun _ _ _ h => h) (Or.inl ⟨by rfl, ?_⟩) ?_ ?_
              rotate_left
              ·
               intro w'
               go_simp
               with_reducible rfl
              rotate_left
              ·
               simp only [Act.put, List.setIfInBounds_toArray, List.set_cons_zero, List.set_cons_succ, i64_w, i32_w]
               rfl
              refine pure_ (i := 2) (N := some 51) (v := ?_) (a' := ?_) #[true, false, true, false, false, false, false, false, false, false] rfl rfl (any_of HT_.out (by kernel_rfl)) (fun _ _ _ h => h) (Or.inl ⟨by rfl, ?_⟩) ?_ ?_
              rotate_left
              ·
               intro w'
               go_simp
               with_reducible rfl
              rotate_left
              ·
               simp only [Act.put, List.setIfInBounds_toArray, List.set_cons_zero, List.set_cons_succ, i64_w, i32_w]
               rfl
              refine pure_ (i := 3) (N := some 52) (v := ?_) (a' := ?_) #[true, false, true, true, false, false, false, false, false, false] rfl rfl (any_of HT_.out (by kernel_rfl)) (fun _ _ _ h => h) (Or.inl ⟨by rfl, ?_⟩) ?_ ?_
              rotate_left
              ·
               intro w'
               go_simp
               with_reducible rfl
              rotate_left
              ·
               simp only [Act.put, List.setIfInBounds_toArray, List.set_cons_zero, List.set_cons_succ, i64_w, i32_w]
               rfl
              refine pure_ (i := 5) (N := some 54) (v := ?_) (a' := ?_) #[true, false, true, true, false, true, false, false, false, false] rfl rfl (any_of HT_.out (by kernel_rfl)) (fun _ _ _ h => h) (Or.inl ⟨by rfl, ?_⟩) ?_ ?_
              rotate_left
              ·
               intro w'
               go_simp
               with_reducible rfl
              rotate_left
              ·
               simp only [Act.put, List.setIfInBounds_toArray, List.set_cons_zero, List.set_cons_succ, i64_w, i32_w]
               rfl
              refine take_ (i := 1) (N := some 50) (v := ?_) (a' := ?_) #[true, true, true, true, false, true, false, false, false, false] rfl rfl (take_ofW HT_.out HW_.out (by kernel_rfl)) (fun _ _ _ h => h) (Or.inl ⟨by rfl, ?_⟩) hHeld ?_ ?_
              rotate_left
              ·
               rintro w' ⟨s0, s1, s2, s3, s4⟩
               go_simp
               with_reducible rfl
              rotate_left
              ·
               simp only [Act.put, List.setIfInBounds_toArray, List.set_cons_zero, List.set_cons_succ, i64_w, i32_w]
               rfl
              refine take_ (i := 4) (N := some 53) (v := ?_) (a' := ?_) #[true, true, true, true, true, true, false, false, false, false] rfl rfl (take_ofW HT_.out HW_.out (by kernel_rfl)) (fun _ _ _ h => h) (Or.inl ⟨by rfl, ?_⟩) hHeld ?_ ?_
              rotate_left
              ·
               rintro w' ⟨s0, s1, s2, s3, s4⟩
               go_simp
               with_reducible rfl
              rotate_left
              ·
               simp only [Act.put, List.setIfInBounds_toArray, List.set_cons_zero, List.set_cons_succ, i64_w, i32_w]
               rfl
              refine pure_ (i := 6) (N := some 55) (v := ?_) (a' := ?_) #[true, true, true, true, true, true, true, false, false, false] rfl rfl (any_of HT_.out (by kernel_rfl)) (fun _ _ _ h => h) (Or.inl ⟨by rfl, ?_⟩) ?_ ?_
              rotate_left
              ·
               intro w'
               go_simp
               with_reducible rfl
              rotate_left
              ·
               simp only [Act.put, List.setIfInBounds_toArray, List.set_cons_zero, List.set_cons_succ, i64_w, i32_w]
               rfl
              refine take_ (i := 7) (N := some 56) (v := ?_) (a' := ?_) #[true, true, true, true, true, true, true, true, false, false] rfl rfl (take_ofW HT_.out HW_.out (by kernel_rfl)) (fun _ _ _ h => h) (Or.inl ⟨by rfl, ?_⟩) hHeld ?_ ?_
              rotate_left
              ·
               rintro w' ⟨s0, s1, s2, s3, s4⟩
               go_simp
               with_reducible rfl
              rotate_left
              ·
               simp only [Act.put, List.setIfInBounds_toArray, List.set_cons_zero, List.set_cons_succ, i64_w, i32_w]
               rfl
              refine pure_ (i := 8) (N := some 57) (v := ?_) (a' := ?_) #[true, true, true, true, true, true, true, true, true, false] rfl rfl (any_of HT_.out (by kernel_rfl)) (fun _ _ _ h => h) (Or.inl ⟨by rfl, ?_⟩) ?_ ?_
              rotate_left
              ·
               intro w'
               go_simp
               with_reducible rfl
              rotate_left
              ·
               simp only [Act.put, List.setIfInBounds_toArray, List.set_cons_zero, List.set_cons_succ, i64_w, i32_w]
               rfl
              refine last_ (i := 9) (N := none) #[true, true, true, true, true, true, true, true, true, true] rfl rfl (one_of HT_.out (by kernel_rfl)) (by decide) (fun K hK => ?_)
              refine skip_ (w1 := ?_) (by rfl) rfl ?_ ?_
              rotate_left
              ·
               go_simp
               rfl
              refine hK.out _ _ ?_
              clear hK K
              refine done_ (done_of HT_.out (by kernel_rfl)) ?_
              have n0_ : Aside0 (Kd.R (Kd.int .i64) 3 (w50.setCell ⟨go17, ((ji6) : Int).toNat, none⟩ (.int .i64 (rd l0_1 a1))) w.heap.size (fun k_ => some k_ ≠ (.slice (some ⟨go17, 0, none⟩) t689.length co36 : Value).ownBlock) (.slice (some ⟨go11, 0, none⟩) t686.length co37) y696) := ⟨by (with_reducible repeat (first | apply Kd.R_alloc | apply Kd.R_drewN | apply Kd.R_drew)); exact Kd.R_mono (Kd.R_far (p := ⟨go17, ((ji6) : Int).toNat, none⟩) (Kd.R_mono HO688.out (fun k_ hk => (⟨hk, fun e_ => hk (by rw [e_]; rfl)⟩ : _ ∧ k_ ≠ go17))) (fun _ hk => hk.2) (.int .i64 (rd l0_1 a1))) (fun _ hk => hk.1)⟩
              have n1_ : Aside0 (Kd.R (Kd.int .i64) 3 (w50.setCell ⟨go17, ((ji6) : Int).toNat, none⟩ (.int .i64 (rd l0_1 a1))) w.heap.size (fun k_ => some k_ ≠ (.slice (some ⟨go11, 0, none⟩) t686.length co37 : Value).ownBlock) (.slice (some ⟨go17, 0, none⟩) t689.length co36) y700) := ⟨by (with_reducible repeat (first | apply Kd.R_alloc | apply Kd.R_drewN | apply Kd.R_drew)); exact HQ51.out⟩
              have n2_ : Aside0 ((w50.setCell ⟨go17, ((ji6) : Int).toNat, none⟩ (.int .i64 (rd l0_1 a1))).heap[gb684]? = some (.cells #[.slice (some ad693) l0_0.length c0_0, .slice (some ad697) l0_1.length c0_1] 36 (0, 0))) := ⟨by (with_reducible repeat (first | refine blk_drewN ?_ _ | refine blk_drew ?_ | refine blk_alloc ?_ _)); refine blk_far ?_ (by have h_ := Kd.R_ne HO691.out BK684.out (by decide); intro e_; exact h_ (by rw [e_]; rfl)) _; (with_reducible repeat (first | refine blk_drewN ?_ _ | refine blk_drew ?_ | refine blk_alloc ?_ _)); exact BK684.out⟩
              have n3_ : Aside0 ((w50.setCell ⟨go17, ((ji6) : Int).toNat, none⟩ (.int .i64 (rd l0_1 a1))).heap[gb685]? = some (.cells #[.slice none 0 0, .slice none 0 0] 36 (0, 0))) := ⟨by (with_reducible repeat (first | refine blk_drewN ?_ _ | refine blk_drew ?_ | refine blk_alloc ?_ _)); refine blk_far ?_ (by have h_ := Kd.R_ne HO691.out BK685.out (by decide); intro e_; exact h_ (by rw [e_]; rfl)) _; (with_reducible repeat (first | refine blk_drewN ?_ _ | refine blk_drew ?_ | refine blk_alloc ?_ _)); exact BK685.out⟩
              have n4_ : Aside0 ((w50.setCell ⟨go17, ((ji6) : Int).toNat, none⟩ (.int .i64 (rd l0_1 a1))).heap[gb692]? = some (.cells #[.slice (some ⟨go11, 0, none⟩) t686.length co37, .slice (some ⟨go17, 0, none⟩) t689.length co36] 36 (0, 0))) := ⟨by (with_reducible repeat (first | refine blk_drewN ?_ _ | refine blk_drew ?_ | refine blk_alloc ?_ _)); refine blk_far ?_ (by have h_ := Kd.R_ne HO691.out BK692.out (by decide); intro e_; exact h_ (by rw [e_]; rfl)) _; (with_reducible repeat (first | refine blk_drewN ?_ _ | refine blk_drew ?_ | refine blk_alloc ?_ _)); exact BK692.out⟩
              have n5_ : Aside0 (Below w.heap.size w (w50.setCell ⟨go17, ((ji6) : Int).toNat, none⟩ (.int .i64 (rd l0_1 a1)))) := ⟨by repeat (first | (with_reducible first | exact HB.out | apply below_alloc | apply pw_below_drewN | apply below_drew1 | refine below_set ?_ GB17.out | refine below_set ?_ GE684.out | refine below_set ?_ GE685.out | refine below_set ?_ GE692.out) | exact HB.out)⟩
              (try clear HO688)
              (try clear HO691)
              (try clear BK684)
              (try clear BK685)
              (try clear BK692)
              (try clear HB)
              generalize (w50.setCell ⟨go17, ((ji6) : Int).toNat, none⟩ (.int .i64 (rd l0_1 a1))) = w52 at n0_ n1_ n2_ n3_ n4_ n5_ ⊢
              have HO688 := n0_
              have HO691 := n1_
              have BK684 := n2_
              have BK685 := n3_
              have BK692 := n4_
              have HB := n5_
              clear n0_ n1_ n2_ n3_ n4_ n5_
              have hnb53 := NB692_684.out
              have hnc53 := NB684_692.out
              have hnb54 := NB692_685.out
              have hnc54 := NB685_692.out
              have hcz55_0 : w52.cell? ⟨gb692, 0, none⟩ = some (.slice (some ⟨go11, 0, none⟩) t686.length co37) := (blk_cell BK692.out 0).trans rfl
              have hcz55_1 : w52.cell? ⟨gb692, 1, none⟩ = some (.slice (some ⟨go17, 0, none⟩) t689.length co36) := (blk_cell BK692.out 1).trans rfl
              have hfz55_0 := blk_frozen BK692.out 0
              have hfz55_1 := blk_frozen BK692.out 1
              have p701 : 0 ≤ (0 : Int) := (by omega)
              have q701 : 0 < (y700.length : Int) := (by have h_ : (0 : Int) < ((t689.length : Int) : Int) := of_decide_eq_true (by first | (with_reducible assumption) | assumption); first | (have e_ := (Kd.R_reads' HO691.out).1; omega) | simpa only [Ny698.out, Ny700.out, List.length_set] using h_)
              have ql701 : ((0 : Int) < ((t689.length : Int) : Int)) = True := eq_true (of_decide_eq_true (by first | (with_reducible assumption) | assumption))
              (try have qn701 : (0 < t689.length) = True := eq_true (by have h_ : (0 : Int) < ((t689.length : Int) : Int) := of_decide_eq_true (by first | (with_reducible assumption) | assumption); omega))
              obtain ⟨ad701, e701, hx701_0⟩ := Kd.at_int (Kd.R_reads' HO691.out).2.2 0 p701 q701
              obtain rfl : (⟨go17, 0, none⟩ : Addr) = ad701 := (by injection e701)
              (first | simp only [add_plain] at hx701_0 | simp only [add_at] at hx701_0 | simp only [Addr.add, Nat.zero_add] at hx701_0 | skip)
              have qi701 : (0 < y700.length) = True := eq_true (by omega)
              (try rw [show ((0 : Int)).toNat = 0 from rfl] at hx701_0)
              (try rw [Addr.add_zero'] at hx701_0)
              replace p701 := eq_true p701
              replace q701 := eq_true q701
              have p23 : 0 ≤ (0 : Int) := (by omega)
              have q23 : (0 : Int) < ((t689.length : Int) : Int) := of_decide_eq_true (by first | (with_reducible assumption) | assumption)
              have qi23 : (0 < t689.length) = True := eq_true (by omega)
              obtain ⟨hx23_0, hf23_0⟩ := Kd.R_celln 0 HO691.out (0 : Int) p23 q23
              (try rw [show ((0 : Int)).toNat = 0 from rfl] at hx23_0)
              (try simp only [Nat.reduceMul, Nat.zero_mul, Nat.zero_add, Nat.reduceAdd] at hx23_0)
              (try rw [show ((0 : Int)).toNat = 0 from rfl] at hf23_0)
              (try simp only [Nat.reduceMul, Nat.zero_mul, Nat.zero_add, Nat.reduceAdd] at hf23_0)
              replace p23 := eq_true p23
              replace q23 := eq_true q23
              obtain ⟨hy56_, hz56_⟩ := Kd.R_celln 0 HO691.out (0 : Int) (by omega) (of_decide_eq_true (by first | (with_reducible assumption) | assumption))
              (try simp only [Int.reduceToNat, Int.toNat_zero, Int.toNat_ofNat, Nat.reduceMul, Nat.zero_mul, Nat.zero_add] at hy56_ hz56_)
              (try rw [show ((0 : Int)).toNat = 0 from rfl] at hy56_)
              (try rw [show ((0 : Int)).toNat = 0 from rfl] at hz56_)
              have HP56 := Kd.R_putg HO691.out (0 : Int) (wrap64 ((rd y700 0) - 1))
              try go_wp2_with (first | ((with_reducible refine gate_store (t := 3) (p := 65) rfl ?_); refine store_event (t := 3) (p := 65) (v := ?vo_w57) (w1 := (w52.setCell ⟨go17, (0 : Int).toNat, none⟩ (.int .i64 (wrap64 ((rd y700 0) - 1))))) ?hg ?ho ?hn ?hr ?_; (case ho => rfl); (case hg => rfl); (case hn => rfl); (case hr => first | (go_simp; done) | (go_simp; rfl)); intro w57 hw; have hg : w52.grownBy w57 (some go17) := (by rw [hw]; exact HP56.2); have hp_ : Kd.R (Kd.int .i64) 3 w57 w.heap.size (fun k_ => some k_ ≠ (.slice (some ⟨go11, 0, none⟩) t686.length co37 : Value).ownBlock) (.slice (some ⟨go17, 0, none⟩) t689.length co36) y702 := (by rw [hw, Ny702.out]; exact HP56.1); clear HP56; have n0_ := Aside0.mk (blk_grown (g := gb684) (o := .cells #[.slice (some ad693) l0_0.length c0_0, .slice (some ad697) l0_1.length c0_1] 36 (0, 0)) (by (with_reducible repeat (first | refine blk_drewN ?_ _ | refine blk_drew ?_ | refine blk_alloc ?_ _)); exact BK684.out) hg (Kd.R_ne HO691.out BK684.out (by decide))); have n1_ := Aside0.mk (blk_grown (g := gb685) (o := .cells #[.slice none 0 0, .slice none 0 0] 36 (0, 0)) (by (with_reducible repeat (first | refine blk_drewN ?_ _ | refine blk_drew ?_ | refine blk_alloc ?_ _)); exact BK685.out) hg (Kd.R_ne HO691.out BK685.out (by decide))); have n2_ := Aside0.mk (Kd.R_after (v := (.slice (some ⟨go17, 0, none⟩) t689.length co36)) (v1 := (.slice (some ⟨go17, 0, none⟩) t689.length co36)) (ok := (fun _ => True)) (by (with_reducible repeat (first | apply Kd.R_alloc | apply Kd.R_drewN | apply Kd.R_drew)); exact Kd.R_mono HO688.out (fun _ hk => ⟨trivial, hk⟩)) hg (.inl rfl)); have n3_ := Aside0.mk (hp_); have n4_ := Aside0.mk (blk_grown (g := gb692) (o := .cells #[.slice (some ⟨go11, 0, none⟩) t686.length co37, .slice (some ⟨go17, 0, none⟩) t689.length co36] 36 (0, 0)) (by (with_reducible repeat (first | refine blk_drewN ?_ _ | refine blk_drew ?_ | refine blk_alloc ?_ _)); exact BK692.out) hg (Kd.R_ne HO691.out BK692.out (by decide))); have n5_ := Aside0.mk ((by rw [hw]; exact below_set (HB.out) GB17.out : Below w.heap.size w w57)); clear BK684; clear BK685; clear HO688; clear HO691; clear BK692; clear HB; have BK684 := n0_; have BK685 := n1_; have HO688 := n2_; have HO691 := n3_; have BK692 := n4_; have HB := n5_; clear n0_ n1_ n2_ n3_ n4_ n5_; clear hg hw hp_; have hcz58_0 : w57.cell? ⟨gb692, 0, none⟩ = some (.slice (some ⟨go11, 0, none⟩) t686.length co37) := (blk_cell BK692.out 0).trans rfl; have hcz58_1 : w57.cell? ⟨gb692, 1, none⟩ = some (.slice (some ⟨go17, 0, none⟩) t689.length co36) := (blk_cell BK692.out 1).trans rfl; have hfz58_0 := blk_frozen BK692.out 0; have hfz58_1 := blk_frozen BK692.out 1; have p703 : 0 ≤ (a1 : Int) := of_decide_eq_true (by first | (with_reducible assumption) | assumption); have q703 : a1 < (y702.length : Int) := (by have h_ : (a1 : Int) < ((t689.length : Int) : Int) := of_decide_eq_true (by first | (with_reducible assumption) | assumption); first | (have e_ := (Kd.R_reads' HO691.out).1; omega) | simpa only [Ny698.out, Ny700.out, Ny702.out, List.length_set] using h_); have ql703 : ((a1 : Int) < ((t689.length : Int) : Int)) = True := eq_true (of_decide_eq_true (by first | (with_reducible assumption) | assumption)); obtain ⟨ad703, e703, hx703_0⟩ := Kd.at_int (Kd.R_reads' HO691.out).2.2 a1 p703 q703; obtain rfl : (⟨go17, 0, none⟩ : Addr) = ad703 := (by injection e703); (first | simp only [add_plain] at hx703_0 | simp only [add_at] at hx703_0 | simp only [Addr.add, Nat.zero_add] at hx703_0 | skip); replace p703 := eq_true p703; replace q703 := eq_true q703; have p24 : 0 ≤ (a1 : Int) := of_decide_eq_true (by first | (with_reducible assumption) | assumption); have q24 : (a1 : Int) < ((t689.length : Int) : Int) := of_decide_eq_true (by first | (with_reducible assumption) | assumption); obtain ⟨hx24_0, hf24_0⟩ := Kd.R_celln 0 HO691.out (a1 : Int) p24 q24; replace p24 := eq_true p24; replace q24 := eq_true q24; obtain ⟨hy59_, hz59_⟩ := Kd.R_celln 0 HO691.out (a1 : Int) (of_decide_eq_true (by first | (with_reducible assumption) | assumption)) (of_decide_eq_true (by first | (with_reducible assumption) | assumption)); have HP59 := Kd.R_putg HO691.out (a1 : Int) (wrap64 ((rd y702 a1) + 1))) | ((with_reducible refine gate_store (t := 3) (p := 72) rfl ?_); refine store_event (t := 3) (p := 72) (v := ?vo_w60) (w1 := (w57.setCell ⟨go17, (a1 : Int).toNat, none⟩ (.int .i64 (wrap64 ((rd y702 a1) + 1))))) ?hg ?ho ?hn ?hr ?_; (case ho => rfl); (case hg => rfl); (case hn => rfl); (case hr => first | (go_simp; done) | (go_simp; rfl)); intro w60 hw; have hg : w57.grownBy w60 (some go17) := (by rw [hw]; exact HP59.2); have hp_ : Kd.R (Kd.int .i64) 3 w60 w.heap.size (fun k_ => some k_ ≠ (.slice (some ⟨go11, 0, none⟩) t686.length co37 : Value).ownBlock) (.slice (some ⟨go17, 0, none⟩) t689.length co36) y704 := (by rw [hw, Ny704.out]; exact HP59.1); clear HP59; have n0_ := Aside0.mk (blk_grown (g := gb684) (o := .cells #[.slice (some ad693) l0_0.length c0_0, .slice (some ad697) l0_1.length c0_1] 36 (0, 0)) (by (with_reducible repeat (first | refine blk_drewN ?_ _ | refine blk_drew ?_ | refine blk_alloc ?_ _)); exact BK684.out) hg (Kd.R_ne HO691.out BK684.out (by decide))); have n1_ := Aside0.mk (blk_grown (g := gb685) (o := .cells #[.slice none 0 0, .slice none 0 0] 36 (0, 0)) (by (with_reducible repeat (first | refine blk_drewN ?_ _ | refine blk_drew ?_ | refine blk_alloc ?_ _)); exact BK685.out) hg (Kd.R_ne HO691.out BK685.out (by decide))); have n2_ := Aside0.mk (Kd.R_after (v := (.slice (some ⟨go17, 0, none⟩) t689.length co36)) (v1 := (.slice (some ⟨go17, 0, none⟩) t689.length co36)) (ok := (fun _ => True)) (by (with_reducible repeat (first | apply Kd.R_alloc | apply Kd.R_drewN | apply Kd.R_drew)); exact HO688.out) hg (.inl rfl)); have n3_ := Aside0.mk (hp_); have n4_ := Aside0.mk (blk_grown (g := gb692) (o := .cells #[.slice (some ⟨go11, 0, none⟩) t686.length co37, .slice (some ⟨go17, 0, none⟩) t689.length co36] 36 (0, 0)) (by (with_reducible repeat (first | refine blk_drewN ?_ _ | refine blk_drew ?_ | refine blk_alloc ?_ _)); exact BK692.out) hg (Kd.R_ne HO691.out BK692.out (by decide))); have n5_ := Aside0.mk ((by rw [hw]; exact below_set (HB.out) GB17.out : Below w.heap.size w w60)); clear BK684; clear BK685; clear HO688; clear HO691; clear BK692; clear HB; have BK684 := n0_; have BK685 := n1_; have HO688 := n2_; have HO691 := n3_; have BK692 := n4_; have HB := n5_; clear n0_ n1_ n2_ n3_ n4_ n5_; clear hg hw hp_; have hcz61_0 : w60.cell? ⟨gb692, 0, none⟩ = some (.slice (some ⟨go11, 0, none⟩) t686.length co37) := (blk_cell BK692.out 0).trans rfl; have hcz61_1 : w60.cell? ⟨gb692, 1, none⟩ = some (.slice (some ⟨go17, 0, none⟩) t689.length co36) := (blk_cell BK692.out 1).trans rfl; have hfz61_0 := blk_frozen BK692.out 0; have hfz61_1 := blk_frozen BK692.out 1; have hcz62_0 : w60.cell? ⟨gb685, 0, none⟩ = some (.slice none 0 0) := (blk_cell BK685.out 0).trans rfl; have hcz62_1 : w60.cell? ⟨gb685, 1, none⟩ = some (.slice none 0 0) := (blk_cell BK685.out 1).trans rfl; have hfz62_0 := blk_frozen BK685.out 0; have hfz62_1 := blk_frozen BK685.out 1))
              refine bodyPost_ret (results_cell_row rfl _ _ gb685 36 #[.slice (some ⟨go11, 0, none⟩) t686.length co37, .slice (some ⟨go17, 0, none⟩) t689.length co36] (0, 0) _ rfl (by (with_reducible repeat (first | refine blk_drewN ?_ _ | refine blk_drew ?_ | refine blk_alloc ?_ _)); refine blk_put (cs := #[.slice (some ⟨go11, 0, none⟩) t686.length co37, .slice none 0 0]) ?_ 1 _ rfl; (with_reducible repeat (first | refine blk_drewN ?_ _ | refine blk_drew ?_ | refine blk_alloc ?_ _)); refine blk_put (cs := #[.slice none 0 0, .slice none 0 0]) ?_ 0 _ rfl; (with_reducible repeat (first | refine blk_drewN ?_ _ | refine blk_drew ?_ | refine blk_alloc ?_ _)); exact BK685.out) Try.underlying36 rfl (by kernel_rfl)) rfl ?_
              exact ⟨_, _, by first | rfl | (simp [errW_none, errW_some] <;> rfl) | (simp only [← hji6]; first | rfl | (simp [errW_none, errW_some] <;> rfl)) | (simp [*, errW_none, errW_some] <;> rfl), by (with_reducible repeat (first | apply Kd.R_alloc | apply Kd.R_drewN | apply Kd.R_drew)); exact Kd.R_mono (Kd.R_far (p := ⟨gb685, 1, none⟩) (Kd.R_far (p := ⟨gb685, 0, none⟩) (Kd.R_types HO688.out BK685.out (by decide)) (fun _ hk => hk.2) (.slice (some ⟨go11, 0, none⟩) t686.length co37)) (fun _ hk => hk.2) (.slice (some ⟨go17, 0, none⟩) t689.length co36)) (fun _ hk => hk.1.2), by (with_reducible repeat (first | apply Kd.R_alloc | apply Kd.R_drewN | apply Kd.R_drew)); exact Kd.R_mono (Kd.R_far (p := ⟨gb685, 1, none⟩) (Kd.R_far (p := ⟨gb685, 0, none⟩) (Kd.R_types HO691.out BK685.out (by decide)) (fun _ hk => hk.2) (.slice (some ⟨go11, 0, none⟩) t686.length co37)) (fun _ hk => hk.2) (.slice (some ⟨go17, 0, none⟩) t689.length co36)) (fun _ hk => hk.1), by repeat (first | (with_reducible first | exact HB.out | apply below_alloc | apply pw_below_drewN | apply below_drew1 | refine below_set ?_ GE684.out | refine below_set ?_ GE685.out | refine below_set ?_ GE692.out) | exact HB.out)⟩
             ·
              rw [if_neg c22] at H
              exact absurd H (by simp)
            ·
             rw [if_neg c21] at H
             have c21b0 : ((ji6) == 0) = false := beq_eq_false_iff_ne.mpr c21
             have c21b1 : ((ji6) != 0) = true := bne_iff_ne.mpr c21
             simp only [Option.some.injEq, Prod.mk.injEq] at H
             obtain ⟨rfl, rfl⟩ := H
             go_enter Try.func57, Try.ntmps57
             try go_wp2_with (first | ((with_reducible refine gate_dst (N := 2) rfl ?_); refine box_event ?hg (N := 2) ?hd (cs := #[.slice A0_0 l0_0.length c0_0, .slice A0_1 l0_1.length c0_1]) (t := 36) ?hr ?_; (case hd => rfl); (case hg => rfl); (case hr => first | (go_simp; done) | (go_simp; rfl)); intro gb684 hg w63 hbox hb; have n0_ := Aside0.mk (below_step (by repeat (first | (with_reducible first | exact HB.out | apply below_alloc | apply pw_below_drewN | apply below_drew1) | exact HB.out)) hb); have n1_ := Aside0.mk (hbox); have n2_ := Aside0.mk ((by rw [hg]; exact (below_size (by repeat (first | (with_reducible first | exact HB.out | apply below_alloc | apply pw_below_drewN | apply below_drew1) | exact HB.out))) : w.heap.size ≤ gb684)); have n3_ := Aside0.mk ((by rw [hg]; exact (below_size (by repeat (first | (with_reducible first | exact HB.out | apply below_alloc | apply pw_below_drewN | apply below_drew1) | exact HB.out))) : w.heap.size ≤ gb684)); clear HB; have HB := n0_; have BK684 := n1_; have GW684 := n2_; have GE684 := n3_; clear n0_ n1_ n2_ n3_; clear hb hbox hg) | ((with_reducible refine gate_dst (N := 4) rfl ?_); refine box_event ?hg (N := 4) ?hd (cs := #[.slice none 0 0, .slice none 0 0]) (t := 36) ?hr ?_; (case hd => rfl); (case hg => rfl); (case hr => first | (go_simp; done) | (go_simp; rfl)); intro gb685 hg w64 hbox hb; have n0_ := Aside0.mk (blk_below (g := gb684) (o := .cells #[.slice A0_0 l0_0.length c0_0, .slice A0_1 l0_1.length c0_1] 36 (0, 0)) (by (with_reducible repeat (first | refine blk_drewN ?_ _ | refine blk_drew ?_ | refine blk_alloc ?_ _)); exact BK684.out) hb); have n1_ := Aside0.mk (below_step (by repeat (first | (with_reducible first | exact HB.out | apply below_alloc | apply pw_below_drewN | apply below_drew1 | refine below_set ?_ GE684.out) | exact HB.out)) hb); have n2_ := Aside0.mk (hbox); have n3_ := Aside0.mk ((by rw [hg]; exact (below_size (by repeat (first | (with_reducible first | exact HB.out | apply below_alloc | apply pw_below_drewN | apply below_drew1 | refine below_set ?_ GE684.out) | exact HB.out))) : w.heap.size ≤ gb685)); have n4_ := Aside0.mk ((by rw [hg]; exact (below_size (by repeat (first | (with_reducible first | exact HB.out | apply below_alloc | apply pw_below_drewN | apply below_drew1 | refine below_set ?_ GE684.out) | exact HB.out))) : w.heap.size ≤ gb685)); have n5_ := Aside0.mk ((by rw [hg]; exact Nat.ne_of_lt (blk_lt (g := gb684) (o := .cells #[.slice A0_0 l0_0.length c0_0, .slice A0_1 l0_1.length c0_1] 36 (0, 0)) (by (with_reducible repeat (first | refine blk_drewN ?_ _ | refine blk_drew ?_ | refine blk_alloc ?_ _)); exact BK684.out)) : gb684 ≠ gb685)); have n6_ := Aside0.mk ((by rw [hg]; exact Nat.ne_of_gt (blk_lt (g := gb684) (o := .cells #[.slice A0_0 l0_0.length c0_0, .slice A0_1 l0_1.length c0_1] 36 (0, 0)) (by (with_reducible repeat (first | refine blk_drewN ?_ _ | refine blk_drew ?_ | refine blk_alloc ?_ _)); exact BK684.out)) : gb685 ≠ gb684)); clear BK684; clear HB; have BK684 := n0_; have HB := n1_; have BK685 := n2_; have GW685 := n3_; have GE685 := n4_; have NB684_685 := n5_; have NB685_684 := n6_; clear n0_ n1_ n2_ n3_ n4_ n5_ n6_; clear hb hbox hg; have hnb65 := NB684_685.out; have hnc65 := NB685_684.out; have hcz66_0 : w64.cell? ⟨gb684, 0, none⟩ = some (.slice A0_0 l0_0.length c0_0) := (blk_cell BK684.out 0).trans rfl; have hcz66_1 : w64.cell? ⟨gb684, 1, none⟩ = some (.slice A0_1 l0_1.length c0_1) := (blk_cell BK684.out 1).trans rfl; have hfz66_0 := blk_frozen BK684.out 0; have hfz66_1 := blk_frozen BK684.out 1))
             have n0_ := Aside0.mk (blk_drew BK684.out)
             have n1_ := Aside0.mk (blk_drew BK685.out)
             have n2_ := Aside0.mk (below_drew1 HB.out)
             clear BK684
             clear BK685
             clear HB
             have BK684 := n0_
             have BK685 := n1_
             have HB := n2_
             clear n0_ n1_ n2_
             refine start_ (n := 9) (S := fun w' => w'.cell? ⟨gb684, 0, none⟩ = some (.slice A0_0 l0_0.length c0_0) ∧ w'.cell? ⟨gb684, 1, none⟩ = some (.slice A0_1 l0_1.length c0_1)) (ds := []) #[false, false, false, false, false, false, false, false, false] (by kernel_rfl) rfl rfl ⟨(blk_cell BK684.out 0).trans rfl, (blk_cell BK684.out 1).trans rfl⟩ (fun hHeld => ?_); refine with_tabW spec_poTop.tab2 spec_poTop.bits2 (fun HT_ HW_ => ?_)
             generalize w64.drew = w67 at BK684 BK685 HB hHeld ⊢
             refine pure_ (i := 0) (N := some 11) (v := ?_) (a' := ?_) #[true, false, false, false, false, false, false, false, false] rfl rfl (any_of HT_.out (by kernel_rfl)) (fun _ _ _ h => h) (Or.inl ⟨by rfl, ?_⟩) ?_ ?_
             rotate_left
             ·
              intro w'
              go_simp
              with_reducible rfl
             rotate_left
             ·
              simp only [Act.put, List.setIfInBounds_toArray, List.set_cons_zero, List.set_cons_succ, i64_w, i32_w]
              rfl
             refine pure_ (i := 3) (N := some 14) (v := ?_) (a' := ?_) #[true, false, false, true, false, false, false, false, false] rfl rfl (any_of HT_.out (by kernel_rfl)) (fun _ _ _ h => h) (Or.inl ⟨by rfl, ?_⟩) ?_ ?_
             rotate_left
             ·
              intro w'
              go_simp
              with_reducible rfl
             rotate_left
             ·
              simp only [Act.put, List.setIfInBounds_toArray, List.set_cons_zero, List.set_cons_succ, i64_w, i32_w]
              rfl
             refine take_ (i := 1) (N := some 12) (v := ?_) (a' := ?_) #[true, true, false, true, false, false, false, false, false] rfl rfl (take_ofW HT_.out HW_.out (by kernel_rfl)) (fun _ _ _ h => h) (Or.inl ⟨by rfl, ?_⟩) hHeld ?_ ?_
             rotate_left
             ·
              rintro w' ⟨s0, s1⟩
              go_simp
              with_reducible rfl
             rotate_left
             ·
              simp only [Act.put, List.setIfInBounds_toArray, List.set_cons_zero, List.set_cons_succ, i64_w, i32_w]
              rfl
             refine take_ (i := 4) (N := some 15) (v := ?_) (a' := ?_) #[true, true, false, true, true, false, false, false, false] rfl rfl (take_ofW HT_.out HW_.out (by kernel_rfl)) (fun _ _ _ h => h) (Or.inl ⟨by rfl, ?_⟩) hHeld ?_ ?_
             rotate_left
             ·
              rintro w' ⟨s0, s1⟩
              go_simp
              with_reducible rfl
             rotate_left
             ·
              simp only [Act.put, List.setIfInBounds_toArray, List.set_cons_zero, List.set_cons_succ, i64_w, i32_w]
              rfl
             refine join_ (σ := Value × Value × Nat) 1 #[true, true, true, true, true, true, true, true, false] (fun s_ => [(13, s_.1), (16, s_.2.1), (6, .pointer (some ⟨s_.2.2, 0, none⟩)), (17, .agg #[s_.1, s_.2.1])]) (fun s_ w' => (w'.cell? ⟨gb684, 0, none⟩ = some (.slice A0_0 l0_0.length c0_0) ∧ w'.cell? ⟨gb684, 1, none⟩ = some (.slice A0_1 l0_1.length c0_1)) ∧ (Kd.R (Kd.int .i64) 3 w' w.heap.size (fun k_ => some k_ ≠ (s_.2.1 : Value).ownBlock) s_.1 t686) ∧ (Kd.R (Kd.int .i64) 3 w' w.heap.size (fun k_ => some k_ ≠ (s_.1 : Value).ownBlock) s_.2.1 t689) ∧ (w'.heap[gb684]? = some (.cells #[.slice A0_0 l0_0.length c0_0, .slice A0_1 l0_1.length c0_1] 36 (0, 0))) ∧ (w'.heap[gb685]? = some (.cells #[.slice none 0 0, .slice none 0 0] 36 (0, 0))) ∧ (w'.heap[s_.2.2]? = some (.cells #[.slice none 0 0, .slice none 0 0] 36 (0, 0))) ∧ (w.heap.size ≤ s_.2.2) ∧ (w.heap.size ≤ s_.2.2) ∧ (gb684 ≠ s_.2.2) ∧ (s_.2.2 ≠ gb684) ∧ (gb685 ≠ s_.2.2) ∧ (s_.2.2 ≠ gb685) ∧ (Below w.heap.size w w')) ?_ ?_
             rotate_left
             ·
              intro hCont
              refine two_ (i := 2) (j := 7) (Ni := some 13) (Nj := some 6) #[true, true, true, true, true, false, false, false, false] #[true, true, false, true, true, false, false, true, false] rfl rfl rfl rfl (two_of HT_.out (by kernel_rfl)) (by decide) (by decide) (fun K hK => ?_) (fun K hK => ?_)
              ·
               skip
               refine goes_ Try.func34 (by kernel_rfl) rfl #[.slice A0_0 l0_0.length c0_0] (by rfl) rfl rfl (by (try simp only [List.map_toArray, List.map_cons, List.map_nil]); first | done | rfl | (simp only [List.length_drop, List.length_take]; rfl)) ?_
               with_reducible refine (spec_l1Own.calls _ _ l0_0 t686 _ ?side1 ?side2 A3.out).mono ?_
               (case side1 => repeat (first | exact (Kd.C_below HR0_0.out HB.out) | (with_reducible refine Kd.C_alloc ?_ _) | (with_reducible refine Kd.C_drewN ?_ _) | (with_reducible refine Kd.C_drew ?_)))
               (case side2 => exact HC0_0.out)
               rintro e w68 ⟨v687, rfl, ho0, hb⟩
               refine ⟨_, rfl, ?_⟩
               have n0_ := Aside0.mk (Kd.R_lower ho0 (below_size (by repeat (first | (with_reducible first | exact HB.out | apply below_alloc | apply pw_below_drewN | apply below_drew1 | refine below_set ?_ GE684.out | refine below_set ?_ GE685.out) | exact HB.out))))
               have n1_ := Aside0.mk (blk_below (g := gb684) (o := .cells #[.slice A0_0 l0_0.length c0_0, .slice A0_1 l0_1.length c0_1] 36 (0, 0)) (by (with_reducible repeat (first | refine blk_drewN ?_ _ | refine blk_drew ?_ | refine blk_alloc ?_ _)); exact BK684.out) hb)
               have n2_ := Aside0.mk (blk_below (g := gb685) (o := .cells #[.slice none 0 0, .slice none 0 0] 36 (0, 0)) (by (with_reducible repeat (first | refine blk_drewN ?_ _ | refine blk_drew ?_ | refine blk_alloc ?_ _)); exact BK685.out) hb)
               have n3_ := Aside0.mk (below_step (by repeat (first | (with_reducible first | exact HB.out | apply below_alloc | apply pw_below_drewN | apply below_drew1 | refine below_set ?_ GE684.out | refine below_set ?_ GE685.out) | exact HB.out)) hb)
               clear BK684
               clear BK685
               clear HB
               have HO688 := n0_
               have BK684 := n1_
               have BK685 := n2_
               have HB := n3_
               clear n0_ n1_ n2_ n3_
               (try clear hb)
               (try clear hb2)
               (try clear hk)
               (try clear hi)
               (try clear ho0)
               refine hK.out _ _ ⟨(blk_cell BK684.out 0).trans rfl, (blk_cell BK684.out 1).trans rfl⟩ (fun hHeld => ?_)
               clear hK K
               refine norm_ (a' := ?_) ?_ ?_
               rotate_left
               ·
                show Act.put _ (some 13) _ = _
                simp only [Act.put, List.setIfInBounds_toArray, List.set_cons_zero, List.set_cons_succ, i64_w, i32_w]
                rfl
               refine two_ (i := 5) (j := 7) (Ni := some 16) (Nj := some 6) #[true, true, true, true, true, true, false, false, false] #[true, true, true, true, true, false, false, true, false] rfl rfl rfl rfl (two_of HT_.out (by kernel_rfl)) (by decide) (by decide) (fun K hK => ?_) (fun K hK => ?_)
               ·
                skip
                refine goes_ Try.func34 (by kernel_rfl) rfl #[.slice A0_1 l0_1.length c0_1] (by rfl) rfl rfl (by (try simp only [List.map_toArray, List.map_cons, List.map_nil]); first | done | rfl | (simp only [List.length_drop, List.length_take]; rfl)) ?_
                with_reducible refine (spec_l1Own.calls _ _ l0_1 t689 _ ?side1 ?side2 A4.out).mono ?_
                (case side1 => repeat (first | exact (Kd.C_below HR0_1.out HB.out) | (with_reducible refine Kd.C_alloc ?_ _) | (with_reducible refine Kd.C_drewN ?_ _) | (with_reducible refine Kd.C_drew ?_)))
                (case side2 => exact HC0_1.out)
                rintro e w69 ⟨v690, rfl, ho0, hb⟩
                refine ⟨_, rfl, ?_⟩
                have n0_ := Aside0.mk (Kd.R_elder' (by (with_reducible repeat (first | apply Kd.R_alloc | apply Kd.R_drewN | apply Kd.R_drew)); exact HO688.out) (Kd.R_base ho0) hb)
                have n1_ := Aside0.mk (Kd.R_lower (Kd.R_new' ho0 (Kd.R_lt (by (with_reducible repeat (first | apply Kd.R_alloc | apply Kd.R_drewN | apply Kd.R_drew)); exact HO688.out))) (below_size (by repeat (first | (with_reducible first | exact HB.out | apply below_alloc | apply pw_below_drewN | apply below_drew1 | refine below_set ?_ GE684.out | refine below_set ?_ GE685.out) | exact HB.out))))
                have n2_ := Aside0.mk (blk_below (g := gb684) (o := .cells #[.slice A0_0 l0_0.length c0_0, .slice A0_1 l0_1.length c0_1] 36 (0, 0)) (by (with_reducible repeat (first | refine blk_drewN ?_ _ | refine blk_drew ?_ | refine blk_alloc ?_ _)); exact BK684.out) hb)
                have n3_ := Aside0.mk (blk_below (g := gb685) (o := .cells #[.slice none 0 0, .slice none 0 0] 36 (0, 0)) (by (with_reducible repeat (first | refine blk_drewN ?_ _ | refine blk_drew ?_ | refine blk_alloc ?_ _)); exact BK685.out) hb)
                have n4_ := Aside0.mk (below_step (by repeat (first | (with_reducible first | exact HB.out | apply below_alloc | apply pw_below_drewN | apply below_drew1 | refine below_set ?_ GE684.out | refine below_set ?_ GE685.out) | exact HB.out)) hb)
                clear HO688
                clear BK684
                clear BK685
                clear HB
                have HO688 := n0_
                have HO691 := n1_
                have BK684 := n2_
                have BK685 := n3_
                have HB := n4_
                clear n0_ n1_ n2_ n3_ n4_
                (try clear hb)
                (try clear hb2)
                (try clear hk)
                (try clear hi)
                (try clear ho0)
                obtain ⟨Ao70, co70, eo70⟩ := Kd.R_slice HO691.out
                (first | subst eo70 | (injection eo70 with f1_ f2_ f3_; have f4_ := f1_.symm; have f5_ := f3_.symm; clear f1_ f2_ f3_; subst f4_; subst f5_))
                obtain ⟨Ao71, co71, eo71⟩ := Kd.R_slice HO688.out
                (first | subst eo71 | (injection eo71 with f1_ f2_ f3_; have f4_ := f1_.symm; have f5_ := f3_.symm; clear f1_ f2_ f3_; subst f4_; subst f5_))
                refine hK.out _ _ ⟨(blk_cell BK684.out 0).trans rfl, (blk_cell BK684.out 1).trans rfl⟩ (fun hHeld => ?_)
                clear hK K
                refine norm_ (a' := ?_) ?_ ?_
                rotate_left
                ·
                 show Act.put _ (some 16) _ = _
                 simp only [Act.put, List.setIfInBounds_toArray, List.set_cons_zero, List.set_cons_succ, i64_w, i32_w]
                 rfl
                refine pure_ (i := 6) (N := some 17) (v := ?_) (a' := ?_) #[true, true, true, true, true, true, true, false, false] rfl rfl (any_of HT_.out (by kernel_rfl)) (fun _ _ _ h => h) (Or.inl ⟨by rfl, ?_⟩) ?_ ?_
                rotate_left
                ·
                 intro w'
                 go_simp
                 with_reducible rfl
                rotate_left
                ·
                 simp only [Act.put, List.setIfInBounds_toArray, List.set_cons_zero, List.set_cons_succ, i64_w, i32_w]
                 rfl
                refine one_ (i := 7) (N := some 6) #[true, true, true, true, true, true, true, true, false] rfl rfl (one_of HT_.out (by kernel_rfl)) (by decide) (fun K hK => ?_)
                refine box_step ?hg (N := 6) ?hd (cs := #[.slice none 0 0, .slice none 0 0]) (t := 36) ?hr ?_; (case hd => rfl); (case hg => rfl); (case hr => first | (go_simp; done) | (go_simp; rfl))
                intro gb692 hg w72 hbox hb
                have n0_ := Aside0.mk (Kd.R_below (by (with_reducible repeat (first | apply Kd.R_alloc | apply Kd.R_drewN | apply Kd.R_drew)); exact HO688.out) hb)
                have n1_ := Aside0.mk (Kd.R_below (by (with_reducible repeat (first | apply Kd.R_alloc | apply Kd.R_drewN | apply Kd.R_drew)); exact HO691.out) hb)
                have n2_ := Aside0.mk (blk_below (g := gb684) (o := .cells #[.slice A0_0 l0_0.length c0_0, .slice A0_1 l0_1.length c0_1] 36 (0, 0)) (by (with_reducible repeat (first | refine blk_drewN ?_ _ | refine blk_drew ?_ | refine blk_alloc ?_ _)); exact BK684.out) hb)
                have n3_ := Aside0.mk (blk_below (g := gb685) (o := .cells #[.slice none 0 0, .slice none 0 0] 36 (0, 0)) (by (with_reducible repeat (first | refine blk_drewN ?_ _ | refine blk_drew ?_ | refine blk_alloc ?_ _)); exact BK685.out) hb)
                have n4_ := Aside0.mk (below_step (by repeat (first | (with_reducible first | exact HB.out | apply below_alloc | apply pw_below_drewN | apply below_drew1 | refine below_set ?_ GE684.out | refine below_set ?_ GE685.out) | exact HB.out)) hb)
                have n5_ := Aside0.mk (hbox)
                have n6_ := Aside0.mk ((by rw [hg]; exact (below_size (by repeat (first | (with_reducible first | exact HB.out | apply below_alloc | apply pw_below_drewN | apply below_drew1 | refine below_set ?_ GE684.out | refine below_set ?_ GE685.out) | exact HB.out))) : w.heap.size ≤ gb692))
                have n7_ := Aside0.mk ((by rw [hg]; exact (below_size (by repeat (first | (with_reducible first | exact HB.out | apply below_alloc | apply pw_below_drewN | apply below_drew1 | refine below_set ?_ GE684.out | refine below_set ?_ GE685.out) | exact HB.out))) : w.heap.size ≤ gb692))
                have n8_ := Aside0.mk ((by rw [hg]; exact Nat.ne_of_lt (blk_lt (g := gb684) (o := .cells #[.slice A0_0 l0_0.length c0_0, .slice A0_1 l0_1.length c0_1] 36 (0, 0)) (by (with_reducible repeat (first | refine blk_drewN ?_ _ | refine blk_drew ?_ | refine blk_alloc ?_ _)); exact BK684.out)) : gb684 ≠ gb692))
                have n9_ := Aside0.mk ((by rw [hg]; exact Nat.ne_of_gt (blk_lt (g := gb684) (o := .cells #[.slice A0_0 l0_0.length c0_0, .slice A0_1 l0_1.length c0_1] 36 (0, 0)) (by (with_reducible repeat (first | refine blk_drewN ?_ _ | refine blk_drew ?_ | refine blk_alloc ?_ _)); exact BK684.out)) : gb692 ≠ gb684))
                have n10_ := Aside0.mk ((by rw [hg]; exact Nat.ne_of_lt (blk_lt (g := gb685) (o := .cells #[.slice none 0 0, .slice none 0 0] 36 (0, 0)) (by (with_reducible repeat (first | refine blk_drewN ?_ _ | refine blk_drew ?_ | refine blk_alloc ?_ _)); exact BK685.out)) : gb685 ≠ gb692))
                have n11_ := Aside0.mk ((by rw [hg]; exact Nat.ne_of_gt (blk_lt (g := gb685) (o := .cells #[.slice none 0 0, .slice none 0 0] 36 (0, 0)) (by (with_reducible repeat (first | refine blk_drewN ?_ _ | refine blk_drew ?_ | refine blk_alloc ?_ _)); exact BK685.out)) : gb692 ≠ gb685))
                clear HO688
                clear HO691
                clear BK684
                clear BK685
                clear HB
                have HO688 := n0_
                have HO691 := n1_
                have BK684 := n2_
                have BK685 := n3_
                have HB := n4_
                have BK692 := n5_
                have GW692 := n6_
                have GE692 := n7_
                have NB684_692 := n8_
                have NB692_684 := n9_
                have NB685_692 := n10_
                have NB692_685 := n11_
                clear n0_ n1_ n2_ n3_ n4_ n5_ n6_ n7_ n8_ n9_ n10_ n11_
                clear hb hbox hg
                refine hK.out _ _ ⟨(blk_cell BK684.out 0).trans rfl, (blk_cell BK684.out 1).trans rfl⟩ (fun hHeld => ?_)
                clear hK K
                refine norm_ (a' := ?_) ?_ ?_
                rotate_left
                ·
                 show Act.put _ (some 6) _ = _
                 simp only [Act.put, List.setIfInBounds_toArray, List.set_cons_zero, List.set_cons_succ, i64_w, i32_w]
                 rfl
                exact norm_ (by simp only [putAll, Act.put, List.setIfInBounds_toArray, List.set_cons_zero, List.set_cons_succ]) (hCont (.slice Ao71 t686.length co71, .slice Ao70 t689.length co70, gb692) _ ⟨hHeld, (by (with_reducible repeat (first | apply Kd.R_alloc | apply Kd.R_drewN | apply Kd.R_drew)); exact Kd.R_mono HO688.out (fun _ hk => hk.2)), (by (with_reducible repeat (first | apply Kd.R_alloc | apply Kd.R_drewN | apply Kd.R_drew)); exact Kd.R_mono HO691.out (fun _ hk => hk.2)), (by (with_reducible repeat (first | refine blk_drewN ?_ _ | refine blk_drew ?_ | refine blk_alloc ?_ _)); exact BK684.out), (by (with_reducible repeat (first | refine blk_drewN ?_ _ | refine blk_drew ?_ | refine blk_alloc ?_ _)); exact BK685.out), (by (with_reducible repeat (first | refine blk_drewN ?_ _ | refine blk_drew ?_ | refine blk_alloc ?_ _)); exact BK692.out), GW692.out, GE692.out, NB684_692.out, NB692_684.out, NB685_692.out, NB692_685.out, (by repeat (first | (with_reducible first | exact HB.out | apply below_alloc | apply pw_below_drewN | apply below_drew1 | refine below_set ?_ GE684.out | refine below_set ?_ GE685.out | refine below_set ?_ GE692.out) | exact HB.out))⟩)
               ·
                skip
                refine box_step ?hg (N := 6) ?hd (cs := #[.slice none 0 0, .slice none 0 0]) (t := 36) ?hr ?_; (case hd => rfl); (case hg => rfl); (case hr => first | (go_simp; done) | (go_simp; rfl))
                intro gb692 hg w69 hbox hb
                have n0_ := Aside0.mk (Kd.R_below (by (with_reducible repeat (first | apply Kd.R_alloc | apply Kd.R_drewN | apply Kd.R_drew)); exact HO688.out) hb)
                have n1_ := Aside0.mk (blk_below (g := gb684) (o := .cells #[.slice A0_0 l0_0.length c0_0, .slice A0_1 l0_1.length c0_1] 36 (0, 0)) (by (with_reducible repeat (first | refine blk_drewN ?_ _ | refine blk_drew ?_ | refine blk_alloc ?_ _)); exact BK684.out) hb)
                have n2_ := Aside0.mk (blk_below (g := gb685) (o := .cells #[.slice none 0 0, .slice none 0 0] 36 (0, 0)) (by (with_reducible repeat (first | refine blk_drewN ?_ _ | refine blk_drew ?_ | refine blk_alloc ?_ _)); exact BK685.out) hb)
                have n3_ := Aside0.mk (below_step (by repeat (first | (with_reducible first | exact HB.out | apply below_alloc | apply pw_below_drewN | apply below_drew1 | refine below_set ?_ GE684.out | refine below_set ?_ GE685.out) | exact HB.out)) hb)
                have n4_ := Aside0.mk (hbox)
                have n5_ := Aside0.mk ((by rw [hg]; exact (below_size (by repeat (first | (with_reducible first | exact HB.out | apply below_alloc | apply pw_below_drewN | apply below_drew1 | refine below_set ?_ GE684.out | refine below_set ?_ GE685.out) | exact HB.out))) : w.heap.size ≤ gb692))
                have n6_ := Aside0.mk ((by rw [hg]; exact (below_size (by repeat (first | (with_reducible first | exact HB.out | apply below_alloc | apply pw_below_drewN | apply below_drew1 | refine below_set ?_ GE684.out | refine below_set ?_ GE685.out) | exact HB.out))) : w.heap.size ≤ gb692))
                have n7_ := Aside0.mk ((by rw [hg]; exact Nat.ne_of_lt (blk_lt (g := gb684) (o := .cells #[.slice A0_0 l0_0.length c0_0, .slice A0_1 l0_1.length c0_1] 36 (0, 0)) (by (with_reducible repeat (first | refine blk_drewN ?_ _ | refine blk_drew ?_ | refine blk_alloc ?_ _)); exact BK684.out)) : gb684 ≠ gb692))
                have n8_ := Aside0.mk ((by rw [hg]; exact Nat.ne_of_gt (blk_lt (g := gb684) (o := .cells #[.slice A0_0 l0_0.length c0_0, .slice A0_1 l0_1.length c0_1] 36 (0, 0)) (by (with_reducible repeat (first | refine blk_drewN ?_ _ | refine blk_drew ?_ | refine blk_alloc ?_ _)); exact BK684.out)) : gb692 ≠ gb684))
                have n9_ := Aside0.mk ((by rw [hg]; exact Nat.ne_of_lt (blk_lt (g := gb685) (o := .cells #[.slice none 0 0, .slice none 0 0] 36 (0, 0)) (by (with_reducible repeat (first | refine blk_drewN ?_ _ | refine blk_drew ?_ | refine blk_alloc ?_ _)); exact BK685.out)) : gb685 ≠ gb692))
                have n10_ := Aside0.mk ((by rw [hg]; exact Nat.ne_of_gt (blk_lt (g := gb685) (o := .cells #[.slice none 0 0, .slice none 0 0] 36 (0, 0)) (by (with_reducible repeat (first | refine blk_drewN ?_ _ | refine blk_drew ?_ | refine blk_alloc ?_ _)); exact BK685.out)) : gb692 ≠ gb685))
                clear HO688
                clear BK684
                clear BK685
                clear HB
                have HO688 := n0_
                have BK684 := n1_
                have BK685 := n2_
                have HB := n3_
                have BK692 := n4_
                have GW692 := n5_
                have GE692 := n6_
                have NB684_692 := n7_
                have NB692_684 := n8_
                have NB685_692 := n9_
                have NB692_685 := n10_
                clear n0_ n1_ n2_ n3_ n4_ n5_ n6_ n7_ n8_ n9_ n10_
                clear hb hbox hg
                refine hK.out _ _ ⟨(blk_cell BK684.out 0).trans rfl, (blk_cell BK684.out 1).trans rfl⟩ (fun hHeld => ?_)
                clear hK K
                refine norm_ (a' := ?_) ?_ ?_
                rotate_left
                ·
                 show Act.put _ (some 6) _ = _
                 simp only [Act.put, List.setIfInBounds_toArray, List.set_cons_zero, List.set_cons_succ, i64_w, i32_w]
                 rfl
                refine one_ (i := 5) (N := some 16) #[true, true, true, true, true, true, false, true, false] rfl rfl (one_of HT_.out (by kernel_rfl)) (by decide) (fun K hK => ?_)
                refine goes_ Try.func34 (by kernel_rfl) rfl #[.slice A0_1 l0_1.length c0_1] (by rfl) rfl rfl (by (try simp only [List.map_toArray, List.map_cons, List.map_nil]); first | done | rfl | (simp only [List.length_drop, List.length_take]; rfl)) ?_
                with_reducible refine (spec_l1Own.calls _ _ l0_1 t689 _ ?side1 ?side2 A4.out).mono ?_
                (case side1 => repeat (first | exact (Kd.C_below HR0_1.out HB.out) | (with_reducible refine Kd.C_alloc ?_ _) | (with_reducible refine Kd.C_drewN ?_ _) | (with_reducible refine Kd.C_drew ?_)))
                (case side2 => exact HC0_1.out)
                rintro e w70 ⟨v690, rfl, ho0, hb⟩
                refine ⟨_, rfl, ?_⟩
                have n0_ := Aside0.mk (Kd.R_elder' (by (with_reducible repeat (first | apply Kd.R_alloc | apply Kd.R_drewN | apply Kd.R_drew)); exact HO688.out) (Kd.R_base ho0) hb)
                have n1_ := Aside0.mk (Kd.R_lower (Kd.R_new' ho0 (Kd.R_lt (by (with_reducible repeat (first | apply Kd.R_alloc | apply Kd.R_drewN | apply Kd.R_drew)); exact HO688.out))) (below_size (by repeat (first | (with_reducible first | exact HB.out | apply below_alloc | apply pw_below_drewN | apply below_drew1 | refine below_set ?_ GE684.out | refine below_set ?_ GE685.out | refine below_set ?_ GE692.out) | exact HB.out))))
                have n2_ := Aside0.mk (blk_below (g := gb684) (o := .cells #[.slice A0_0 l0_0.length c0_0, .slice A0_1 l0_1.length c0_1] 36 (0, 0)) (by (with_reducible repeat (first | refine blk_drewN ?_ _ | refine blk_drew ?_ | refine blk_alloc ?_ _)); exact BK684.out) hb)
                have n3_ := Aside0.mk (blk_below (g := gb685) (o := .cells #[.slice none 0 0, .slice none 0 0] 36 (0, 0)) (by (with_reducible repeat (first | refine blk_drewN ?_ _ | refine blk_drew ?_ | refine blk_alloc ?_ _)); exact BK685.out) hb)
                have n4_ := Aside0.mk (blk_below (g := gb692) (o := .cells #[.slice none 0 0, .slice none 0 0] 36 (0, 0)) (by (with_reducible repeat (first | refine blk_drewN ?_ _ | refine blk_drew ?_ | refine blk_alloc ?_ _)); exact BK692.out) hb)
                have n5_ := Aside0.mk (below_step (by repeat (first | (with_reducible first | exact HB.out | apply below_alloc | apply pw_below_drewN | apply below_drew1 | refine below_set ?_ GE684.out | refine below_set ?_ GE685.out | refine below_set ?_ GE692.out) | exact HB.out)) hb)
                clear HO688
                clear BK684
                clear BK685
                clear BK692
                clear HB
                have HO688 := n0_
                have HO691 := n1_
                have BK684 := n2_
                have BK685 := n3_
                have BK692 := n4_
                have HB := n5_
                clear n0_ n1_ n2_ n3_ n4_ n5_
                (try clear hb)
                (try clear hb2)
                (try clear hk)
                (try clear hi)
                (try clear ho0)
                obtain ⟨Ao71, co71, eo71⟩ := Kd.R_slice HO691.out
                (first | subst eo71 | (injection eo71 with f1_ f2_ f3_; have f4_ := f1_.symm; have f5_ := f3_.symm; clear f1_ f2_ f3_; subst f4_; subst f5_))
                obtain ⟨Ao72, co72, eo72⟩ := Kd.R_slice HO688.out
                (first | subst eo72 | (injection eo72 with f1_ f2_ f3_; have f4_ := f1_.symm; have f5_ := f3_.symm; clear f1_ f2_ f3_; subst f4_; subst f5_))
                refine hK.out _ _ ⟨(blk_cell BK684.out 0).trans rfl, (blk_cell BK684.out 1).trans rfl⟩ (fun hHeld => ?_)
                clear hK K
                refine norm_ (a' := ?_) ?_ ?_
                rotate_left
                ·
                 show Act.put _ (some 16) _ = _
                 simp only [Act.put, List.setIfInBounds_toArray, List.set_cons_zero, List.set_cons_succ, i64_w, i32_w]
                 rfl
                refine pure_ (i := 6) (N := some 17) (v := ?_) (a' := ?_) #[true, true, true, true, true, true, true, true, false] rfl rfl (any_of HT_.out (by kernel_rfl)) (fun _ _ _ h => h) (Or.inl ⟨by rfl, ?_⟩) ?_ ?_
                rotate_left
                ·
                 intro w'
                 go_simp
                 with_reducible rfl
                rotate_left
                ·
                 simp only [Act.put, List.setIfInBounds_toArray, List.set_cons_zero, List.set_cons_succ, i64_w, i32_w]
                 rfl
                exact norm_ (by simp only [putAll, Act.put, List.setIfInBounds_toArray, List.set_cons_zero, List.set_cons_succ]) (hCont (.slice Ao72 t686.length co72, .slice Ao71 t689.length co71, gb692) _ ⟨hHeld, (by (with_reducible repeat (first | apply Kd.R_alloc | apply Kd.R_drewN | apply Kd.R_drew)); exact Kd.R_mono HO688.out (fun _ hk => hk.2)), (by (with_reducible repeat (first | apply Kd.R_alloc | apply Kd.R_drewN | apply Kd.R_drew)); exact Kd.R_mono HO691.out (fun _ hk => hk.2)), (by (with_reducible repeat (first | refine blk_drewN ?_ _ | refine blk_drew ?_ | refine blk_alloc ?_ _)); exact BK684.out), (by (with_reducible repeat (first | refine blk_drewN ?_ _ | refine blk_drew ?_ | refine blk_alloc ?_ _)); exact BK685.out), (by (with_reducible repeat (first | refine blk_drewN ?_ _ | refine blk_drew ?_ | refine blk_alloc ?_ _)); exact BK692.out), GW692.out, GE692.out, NB684_692.out, NB692_684.out, NB685_692.out, NB692_685.out, (by repeat (first | (with_reducible first | exact HB.out | apply below_alloc | apply pw_below_drewN | apply below_drew1 | refine below_set ?_ GE684.out | refine below_set ?_ GE685.out | refine below_set ?_ GE692.out) | exact HB.out))⟩)
              ·
               skip
               refine box_step ?hg (N := 6) ?hd (cs := #[.slice none 0 0, .slice none 0 0]) (t := 36) ?hr ?_; (case hd => rfl); (case hg => rfl); (case hr => first | (go_simp; done) | (go_simp; rfl))
               intro gb692 hg w68 hbox hb
               have n0_ := Aside0.mk (blk_below (g := gb684) (o := .cells #[.slice A0_0 l0_0.length c0_0, .slice A0_1 l0_1.length c0_1] 36 (0, 0)) (by (with_reducible repeat (first | refine blk_drewN ?_ _ | refine blk_drew ?_ | refine blk_alloc ?_ _)); exact BK684.out) hb)
               have n1_ := Aside0.mk (blk_below (g := gb685) (o := .cells #[.slice none 0 0, .slice none 0 0] 36 (0, 0)) (by (with_reducible repeat (first | refine blk_drewN ?_ _ | refine blk_drew ?_ | refine blk_alloc ?_ _)); exact BK685.out) hb)
               have n2_ := Aside0.mk (below_step (by repeat (first | (with_reducible first | exact HB.out | apply below_alloc | apply pw_below_drewN | apply below_drew1 | refine below_set ?_ GE684.out | refine below_set ?_ GE685.out) | exact HB.out)) hb)
               have n3_ := Aside0.mk (hbox)
               have n4_ := Aside0.mk ((by rw [hg]; exact (below_size (by repeat (first | (with_reducible first | exact HB.out | apply below_alloc | apply pw_below_drewN | apply below_drew1 | refine below_set ?_ GE684.out | refine below_set ?_ GE685.out) | exact HB.out))) : w.heap.size ≤ gb692))
               have n5_ := Aside0.mk ((by rw [hg]; exact (below_size (by repeat (first | (with_reducible first | exact HB.out | apply below_alloc | apply pw_below_drewN | apply below_drew1 | refine below_set ?_ GE684.out | refine below_set ?_ GE685.out) | exact HB.out))) : w.heap.size ≤ gb692))
               have n6_ := Aside0.mk ((by rw [hg]; exact Nat.ne_of_lt (blk_lt (g := gb684) (o := .cells #[.slice A0_0 l0_0.length c0_0, .slice A0_1 l0_1.length c0_1] 36 (0, 0)) (by (with_reducible repeat (first | refine blk_drewN ?_ _ | refine blk_drew ?_ | refine blk_alloc ?_ _)); exact BK684.out)) : gb684 ≠ gb692))
               have n7_ := Aside0.mk ((by rw [hg]; exact Nat.ne_of_gt (blk_lt (g := gb684) (o := .cells #[.slice A0_0 l0_0.length c0_0, .slice A0_1 l0_1.length c0_1] 36 (0, 0)) (by (with_reducible repeat (first | refine blk_drewN ?_ _ | refine blk_drew ?_ | refine blk_alloc ?_ _)); exact BK684.out)) : gb692 ≠ gb684))
               have n8_ := Aside0.mk ((by rw [hg]; exact Nat.ne_of_lt (blk_lt (g := gb685) (o := .cells #[.slice none 0 0, .slice none 0 0] 36 (0, 0)) (by (with_reducible repeat (first | refine blk_drewN ?_ _ | refine blk_drew ?_ | refine blk_alloc ?_ _)); exact BK685.out)) : gb685 ≠ gb692))
               have n9_ := Aside0.mk ((by rw [hg]; exact Nat.ne_of_gt (blk_lt (g := gb685) (o := .cells #[.slice none 0 0, .slice none 0 0] 36 (0, 0)) (by (with_reducible repeat (first | refine blk_drewN ?_ _ | refine blk_drew ?_ | refine blk_alloc ?_ _)); exact BK685.out)) : gb692 ≠ gb685))
               clear BK684
               clear BK685
               clear HB
               have BK684 := n0_
               have BK685 := n1_
               have HB := n2_
               have BK692 := n3_
               have GW692 := n4_
               have GE692 := n5_
               have NB684_692 := n6_
               have NB692_684 := n7_
               have NB685_692 := n8_
               have NB692_685 := n9_
               clear n0_ n1_ n2_ n3_ n4_ n5_ n6_ n7_ n8_ n9_
               clear hb hbox hg
               refine hK.out _ _ ⟨(blk_cell BK684.out 0).trans rfl, (blk_cell BK684.out 1).trans rfl⟩ (fun hHeld => ?_)
               clear hK K
               refine norm_ (a' := ?_) ?_ ?_
               rotate_left
               ·
                show Act.put _ (some 6) _ = _
                simp only [Act.put, List.setIfInBounds_toArray, List.set_cons_zero, List.set_cons_succ, i64_w, i32_w]
                rfl
               refine one_ (i := 2) (N := some 13) #[true, true, true, true, true, false, false, true, false] rfl rfl (one_of HT_.out (by kernel_rfl)) (by decide) (fun K hK => ?_)
               refine goes_ Try.func34 (by kernel_rfl) rfl #[.slice A0_0 l0_0.length c0_0] (by rfl) rfl rfl (by (try simp only [List.map_toArray, List.map_cons, List.map_nil]); first | done | rfl | (simp only [List.length_drop, List.length_take]; rfl)) ?_
               with_reducible refine (spec_l1Own.calls _ _ l0_0 t686 _ ?side1 ?side2 A3.out).mono ?_
               (case side1 => repeat (first | exact (Kd.C_below HR0_0.out HB.out) | (with_reducible refine Kd.C_alloc ?_ _) | (with_reducible refine Kd.C_drewN ?_ _) | (with_reducible refine Kd.C_drew ?_)))
               (case side2 => exact HC0_0.out)
               rintro e w69 ⟨v687, rfl, ho0, hb⟩
               refine ⟨_, rfl, ?_⟩
               have n0_ := Aside0.mk (Kd.R_lower ho0 (below_size (by repeat (first | (with_reducible first | exact HB.out | apply below_alloc | apply pw_below_drewN | apply below_drew1 | refine below_set ?_ GE684.out | refine below_set ?_ GE685.out | refine below_set ?_ GE692.out) | exact HB.out))))
               have n1_ := Aside0.mk (blk_below (g := gb684) (o := .cells #[.slice A0_0 l0_0.length c0_0, .slice A0_1 l0_1.length c0_1] 36 (0, 0)) (by (with_reducible repeat (first | refine blk_drewN ?_ _ | refine blk_drew ?_ | refine blk_alloc ?_ _)); exact BK684.out) hb)
               have n2_ := Aside0.mk (blk_below (g := gb685) (o := .cells #[.slice none 0 0, .slice none 0 0] 36 (0, 0)) (by (with_reducible repeat (first | refine blk_drewN ?_ _ | refine blk_drew ?_ | refine blk_alloc ?_ _)); exact BK685.out) hb)
               have n3_ := Aside0.mk (blk_below (g := gb692) (o := .cells #[.slice none 0 0, .slice none 0 0] 36 (0, 0)) (by (with_reducible repeat (first | refine blk_drewN ?_ _ | refine blk_drew ?_ | refine blk_alloc ?_ _)); exact BK692.out) hb)
               have n4_ := Aside0.mk (below_step (by repeat (first | (with_reducible first | exact HB.out | apply below_alloc | apply pw_below_drewN | apply below_drew1 | refine below_set ?_ GE684.out | refine below_set ?_ GE685.out | refine below_set ?_ GE692.out) | exact HB.out)) hb)
               clear BK684
               clear BK685
               clear BK692
               clear HB
               have HO688 := n0_
               have BK684 := n1_
               have BK685 := n2_
               have BK692 := n3_
               have HB := n4_
               clear n0_ n1_ n2_ n3_ n4_
               (try clear hb)
               (try clear hb2)
               (try clear hk)
               (try clear hi)
               (try clear ho0)
               refine hK.out _ _ ⟨(blk_cell BK684.out 0).trans rfl, (blk_cell BK684.out 1).trans rfl⟩ (fun hHeld => ?_)
               clear hK K
               refine norm_ (a' := ?_) ?_ ?_
               rotate_left
               ·
                show Act.put _ (some 13) _ = _
                simp only [Act.put, List.setIfInBounds_toArray, List.set_cons_zero, List.set_cons_succ, i64_w, i32_w]
                rfl
               refine one_ (i := 5) (N := some 16) #[true, true, true, true, true, true, false, true, false] rfl rfl (one_of HT_.out (by kernel_rfl)) (by decide) (fun K hK => ?_)
               refine goes_ Try.func34 (by kernel_rfl) rfl #[.slice A0_1 l0_1.length c0_1] (by rfl) rfl rfl (by (try simp only [List.map_toArray, List.map_cons, List.map_nil]); first | done | rfl | (simp only [List.length_drop, List.length_take]; rfl)) ?_
               with_reducible refine (spec_l1Own.calls _ _ l0_1 t689 _ ?side1 ?side2 A4.out).mono ?_
               (case side1 => repeat (first | exact (Kd.C_below HR0_1.out HB.out) | (with_reducible refine Kd.C_alloc ?_ _) | (with_reducible refine Kd.C_drewN ?_ _) | (with_reducible refine Kd.C_drew ?_)))
               (case side2 => exact HC0_1.out)
               rintro e w70 ⟨v690, rfl, ho0, hb⟩
               refine ⟨_, rfl, ?_⟩
               have n0_ := Aside0.mk (Kd.R_elder' (by (with_reducible repeat (first | apply Kd.R_alloc | apply Kd.R_drewN | apply Kd.R_drew)); exact HO688.out) (Kd.R_base ho0) hb)
               have n1_ := Aside0.mk (Kd.R_lower (Kd.R_new' ho0 (Kd.R_lt (by (with_reducible repeat (first | apply Kd.R_alloc | apply Kd.R_drewN | apply Kd.R_drew)); exact HO688.out))) (below_size (by repeat (first | (with_reducible first | exact HB.out | apply below_alloc | apply pw_below_drewN | apply below_drew1 | refine below_set ?_ GE684.out | refine below_set ?_ GE685.out | refine below_set ?_ GE692.out) | exact HB.out))))
               have n2_ := Aside0.mk (blk_below (g := gb684) (o := .cells #[.slice A0_0 l0_0.length c0_0, .slice A0_1 l0_1.length c0_1] 36 (0, 0)) (by (with_reducible repeat (first | refine blk_drewN ?_ _ | refine blk_drew ?_ | refine blk_alloc ?_ _)); exact BK684.out) hb)
               have n3_ := Aside0.mk (blk_below (g := gb685) (o := .cells #[.slice none 0 0, .slice none 0 0] 36 (0, 0)) (by (with_reducible repeat (first | refine blk_drewN ?_ _ | refine blk_drew ?_ | refine blk_alloc ?_ _)); exact BK685.out) hb)
               have n4_ := Aside0.mk (blk_below (g := gb692) (o := .cells #[.slice none 0 0, .slice none 0 0] 36 (0, 0)) (by (with_reducible repeat (first | refine blk_drewN ?_ _ | refine blk_drew ?_ | refine blk_alloc ?_ _)); exact BK692.out) hb)
               have n5_ := Aside0.mk (below_step (by repeat (first | (with_reducible first | exact HB.out | apply below_alloc | apply pw_below_drewN | apply below_drew1 | refine below_set ?_ GE684.out | refine below_set ?_ GE685.out | refine below_set ?_ GE692.out) | exact HB.out)) hb)
               clear HO688
               clear BK684
               clear BK685
               clear BK692
               clear HB
               have HO688 := n0_
               have HO691 := n1_
               have BK684 := n2_
               have BK685 := n3_
               have BK692 := n4_
               have HB := n5_
               clear n0_ n1_ n2_ n3_ n4_ n5_
               (try clear hb)
               (try clear hb2)
               (try clear hk)
               (try clear hi)
               (try clear ho0)
               obtain ⟨Ao71, co71, eo71⟩ := Kd.R_slice HO691.out
               (first | subst eo71 | (injection eo71 with f1_ f2_ f3_; have f4_ := f1_.symm; have f5_ := f3_.symm; clear f1_ f2_ f3_; subst f4_; subst f5_))
               obtain ⟨Ao72, co72, eo72⟩ := Kd.R_slice HO688.out
               (first | subst eo72 | (injection eo72 with f1_ f2_ f3_; have f4_ := f1_.symm; have f5_ := f3_.symm; clear f1_ f2_ f3_; subst f4_; subst f5_))
               refine hK.out _ _ ⟨(blk_cell BK684.out 0).trans rfl, (blk_cell BK684.out 1).trans rfl⟩ (fun hHeld => ?_)
               clear hK K
               refine norm_ (a' := ?_) ?_ ?_
               rotate_left
               ·
                show Act.put _ (some 16) _ = _
                simp only [Act.put, List.setIfInBounds_toArray, List.set_cons_zero, List.set_cons_succ, i64_w, i32_w]
                rfl
               refine pure_ (i := 6) (N := some 17) (v := ?_) (a' := ?_) #[true, true, true, true, true, true, true, true, false] rfl rfl (any_of HT_.out (by kernel_rfl)) (fun _ _ _ h => h) (Or.inl ⟨by rfl, ?_⟩) ?_ ?_
               rotate_left
               ·
                intro w'
                go_simp
                with_reducible rfl
               rotate_left
               ·
                simp only [Act.put, List.setIfInBounds_toArray, List.set_cons_zero, List.set_cons_succ, i64_w, i32_w]
                rfl
               exact norm_ (by simp only [putAll, Act.put, List.setIfInBounds_toArray, List.set_cons_zero, List.set_cons_succ]) (hCont (.slice Ao72 t686.length co72, .slice Ao71 t689.length co71, gb692) _ ⟨hHeld, (by (with_reducible repeat (first | apply Kd.R_alloc | apply Kd.R_drewN | apply Kd.R_drew)); exact Kd.R_mono HO688.out (fun _ hk => hk.2)), (by (with_reducible repeat (first | apply Kd.R_alloc | apply Kd.R_drewN | apply Kd.R_drew)); exact Kd.R_mono HO691.out (fun _ hk => hk.2)), (by (with_reducible repeat (first | refine blk_drewN ?_ _ | refine blk_drew ?_ | refine blk_alloc ?_ _)); exact BK684.out), (by (with_reducible repeat (first | refine blk_drewN ?_ _ | refine blk_drew ?_ | refine blk_alloc ?_ _)); exact BK685.out), (by (with_reducible repeat (first | refine blk_drewN ?_ _ | refine blk_drew ?_ | refine blk_alloc ?_ _)); exact BK692.out), GW692.out, GE692.out, NB684_692.out, NB692_684.out, NB685_692.out, NB692_685.out, (by repeat (first | (with_reducible first | exact HB.out | apply below_alloc | apply pw_below_drewN | apply below_drew1 | refine below_set ?_ GE684.out | refine below_set ?_ GE685.out | refine below_set ?_ GE692.out) | exact HB.out))⟩)
             rintro ⟨v687, v690, gb692⟩ w73 ⟨hS_, h0_, h1_, h2_, h3_, h4_, h5_, h6_, h7_, h8_, h9_, h10_, h11_⟩
             have n0_ : Aside0 (Kd.R (Kd.int .i64) 3 w73 w.heap.size (fun k_ => some k_ ≠ (v690 : Value).ownBlock) v687 t686) := ⟨h0_⟩
             have n1_ : Aside0 (Kd.R (Kd.int .i64) 3 w73 w.heap.size (fun k_ => some k_ ≠ (v687 : Value).ownBlock) v690 t689) := ⟨h1_⟩
             have n2_ : Aside0 (w73.heap[gb684]? = some (.cells #[.slice A0_0 l0_0.length c0_0, .slice A0_1 l0_1.length c0_1] 36 (0, 0))) := ⟨h2_⟩
             have n3_ : Aside0 (w73.heap[gb685]? = some (.cells #[.slice none 0 0, .slice none 0 0] 36 (0, 0))) := ⟨h3_⟩
             have n4_ : Aside0 (w73.heap[gb692]? = some (.cells #[.slice none 0 0, .slice none 0 0] 36 (0, 0))) := ⟨h4_⟩
             have n5_ : Aside0 (w.heap.size ≤ gb692) := ⟨h5_⟩
             have n6_ : Aside0 (w.heap.size ≤ gb692) := ⟨h6_⟩
             have n7_ : Aside0 (gb684 ≠ gb692) := ⟨h7_⟩
             have n8_ : Aside0 (gb692 ≠ gb684) := ⟨h8_⟩
             have n9_ : Aside0 (gb685 ≠ gb692) := ⟨h9_⟩
             have n10_ : Aside0 (gb692 ≠ gb685) := ⟨h10_⟩
             have n11_ : Aside0 (Below w.heap.size w w73) := ⟨h11_⟩
             clear BK684
             clear BK685
             clear HB
             clear h0_ h1_ h2_ h3_ h4_ h5_ h6_ h7_ h8_ h9_ h10_ h11_
             have HO688 := n0_
             have HO691 := n1_
             have BK684 := n2_
             have BK685 := n3_
             have BK692 := n4_
             have GW692 := n5_
             have GE692 := n6_
             have NB684_692 := n7_
             have NB692_684 := n8_
             have NB685_692 := n9_
             have NB692_685 := n10_
             have HB := n11_
             clear n0_ n1_ n2_ n3_ n4_ n5_ n6_ n7_ n8_ n9_ n10_ n11_
             have hHeld : w73.cell? ⟨gb684, 0, none⟩ = some (.slice A0_0 l0_0.length c0_0) ∧ w73.cell? ⟨gb684, 1, none⟩ = some (.slice A0_1 l0_1.length c0_1) := hS_
             obtain ⟨Ao74, co74, eo74⟩ := Kd.R_slice HO691.out
             (first | subst eo74 | (injection eo74 with f1_ f2_ f3_; have f4_ := f1_.symm; have f5_ := f3_.symm; clear f1_ f2_ f3_; subst f4_; subst f5_))
             obtain ⟨Ao75, co75, eo75⟩ := Kd.R_slice HO688.out
             (first | subst eo75 | (injection eo75 with f1_ f2_ f3_; have f4_ := f1_.symm; have f5_ := f3_.symm; clear f1_ f2_ f3_; subst f4_; subst f5_))
             refine norm_ (a' := ?_) ?_ ?_
             rotate_left
             ·
              simp only [putAll, Act.put, List.setIfInBounds_toArray, List.set_cons_zero, List.set_cons_succ]
              rfl
             refine one_ (i := 8) (N := none) #[true, true, true, true, true, true, true, true, true] rfl rfl (one_of HT_.out (by kernel_rfl)) (by decide) (fun K hK => ?_)
             have hs76 : w73.cell? ⟨gb692, 0, none⟩ = some (.slice none 0 0) := (blk_cell BK692.out 0).trans rfl
             have hfs76 := blk_frozen BK692.out 0
             have hns76_0 := NB684_692.out
             have hns76_1 := NB685_692.out
             have hms76_0 := NB692_684.out
             have hms76_1 := NB692_685.out
             have hs77 : w73.cell? ⟨gb692, 1, none⟩ = some (.slice none 0 0) := (blk_cell BK692.out 1).trans rfl
             have hfs77 := blk_frozen BK692.out 1
             have hns77_0 := NB684_692.out
             have hns77_1 := NB685_692.out
             have hms77_0 := NB692_684.out
             have hms77_1 := NB692_685.out
             refine skip_ (w1 := ?_) (by rfl) rfl ?_ ?_
             rotate_left
             ·
              go_simp
              rfl
             refine hK.out _ _ ⟨((cell_far (p := ⟨gb692, _, none⟩) NB684_692.out _).trans (((cell_far (p := ⟨gb692, _, none⟩) NB684_692.out _).trans (hHeld.1)))), ((cell_far (p := ⟨gb692, _, none⟩) NB684_692.out _).trans (((cell_far (p := ⟨gb692, _, none⟩) NB684_692.out _).trans (hHeld.2))))⟩ (fun hHeld => ?_)
             clear hK K
             refine done_ (done_of HT_.out (by kernel_rfl)) ?_
             try go_wp2
             have n0_ : Aside0 (Kd.R (Kd.int .i64) 3 ((w73.setCell ⟨gb692, 0, none⟩ (.slice Ao75 t686.length co75)).setCell ⟨gb692, 1, none⟩ (.slice Ao74 t689.length co74)) w.heap.size (fun k_ => some k_ ≠ (.slice Ao74 t689.length co74 : Value).ownBlock) (.slice Ao75 t686.length co75) t686) := ⟨by (with_reducible repeat (first | apply Kd.R_alloc | apply Kd.R_drewN | apply Kd.R_drew)); exact Kd.R_mono (Kd.R_far (p := ⟨gb692, 1, none⟩) (Kd.R_far (p := ⟨gb692, 0, none⟩) (Kd.R_types HO688.out BK692.out (by decide)) (fun _ hk => hk.2) (.slice Ao75 t686.length co75)) (fun _ hk => hk.2) (.slice Ao74 t689.length co74)) (fun _ hk => hk.1)⟩
             have n1_ : Aside0 (Kd.R (Kd.int .i64) 3 ((w73.setCell ⟨gb692, 0, none⟩ (.slice Ao75 t686.length co75)).setCell ⟨gb692, 1, none⟩ (.slice Ao74 t689.length co74)) w.heap.size (fun k_ => some k_ ≠ (.slice Ao75 t686.length co75 : Value).ownBlock) (.slice Ao74 t689.length co74) t689) := ⟨by (with_reducible repeat (first | apply Kd.R_alloc | apply Kd.R_drewN | apply Kd.R_drew)); exact Kd.R_mono (Kd.R_far (p := ⟨gb692, 1, none⟩) (Kd.R_far (p := ⟨gb692, 0, none⟩) (Kd.R_types HO691.out BK692.out (by decide)) (fun _ hk => hk.2) (.slice Ao75 t686.length co75)) (fun _ hk => hk.2) (.slice Ao74 t689.length co74)) (fun _ hk => hk.1)⟩
             have n2_ : Aside0 (((w73.setCell ⟨gb692, 0, none⟩ (.slice Ao75 t686.length co75)).setCell ⟨gb692, 1, none⟩ (.slice Ao74 t689.length co74)).heap[gb684]? = some (.cells #[.slice A0_0 l0_0.length c0_0, .slice A0_1 l0_1.length c0_1] 36 (0, 0))) := ⟨by (with_reducible repeat (first | refine blk_drewN ?_ _ | refine blk_drew ?_ | refine blk_alloc ?_ _)); refine blk_far ?_ NB684_692.out _; (with_reducible repeat (first | refine blk_drewN ?_ _ | refine blk_drew ?_ | refine blk_alloc ?_ _)); refine blk_far ?_ NB684_692.out _; (with_reducible repeat (first | refine blk_drewN ?_ _ | refine blk_drew ?_ | refine blk_alloc ?_ _)); exact BK684.out⟩
             have n3_ : Aside0 (((w73.setCell ⟨gb692, 0, none⟩ (.slice Ao75 t686.length co75)).setCell ⟨gb692, 1, none⟩ (.slice Ao74 t689.length co74)).heap[gb685]? = some (.cells #[.slice none 0 0, .slice none 0 0] 36 (0, 0))) := ⟨by (with_reducible repeat (first | refine blk_drewN ?_ _ | refine blk_drew ?_ | refine blk_alloc ?_ _)); refine blk_far ?_ NB685_692.out _; (with_reducible repeat (first | refine blk_drewN ?_ _ | refine blk_drew ?_ | refine blk_alloc ?_ _)); refine blk_far ?_ NB685_692.out _; (with_reducible repeat (first | refine blk_drewN ?_ _ | refine blk_drew ?_ | refine blk_alloc ?_ _)); exact BK685.out⟩
             have n4_ : Aside0 (((w73.setCell ⟨gb692, 0, none⟩ (.slice Ao75 t686.length co75)).setCell ⟨gb692, 1, none⟩ (.slice Ao74 t689.length co74)).heap[gb692]? = some (.cells #[.slice Ao75 t686.length co75, .slice Ao74 t689.length co74] 36 (0, 0))) := ⟨by (with_reducible repeat (first | refine blk_drewN ?_ _ | refine blk_drew ?_ | refine blk_alloc ?_ _)); refine blk_put (cs := #[.slice Ao75 t686.length co75, .slice none 0 0]) ?_ 1 _ rfl; (with_reducible repeat (first | refine blk_drewN ?_ _ | refine blk_drew ?_ | refine blk_alloc ?_ _)); refine blk_put (cs := #[.slice none 0 0, .slice none 0 0]) ?_ 0 _ rfl; (with_reducible repeat (first | refine blk_drewN ?_ _ | refine blk_drew ?_ | refine blk_alloc ?_ _)); exact BK692.out⟩
             have n5_ : Aside0 (Below w.heap.size w ((w73.setCell ⟨gb692, 0, none⟩ (.slice Ao75 t686.length co75)).setCell ⟨gb692, 1, none⟩ (.slice Ao74 t689.length co74))) := ⟨by repeat (first | (with_reducible first | exact HB.out | apply below_alloc | apply pw_below_drewN | apply below_drew1 | refine below_set ?_ GE684.out | refine below_set ?_ GE685.out | refine below_set ?_ GE692.out) | exact HB.out)⟩
             (try clear HO688)
             (try clear HO691)
             (try clear BK684)
             (try clear BK685)
             (try clear BK692)
             (try clear HB)
             generalize ((w73.setCell ⟨gb692, 0, none⟩ (.slice Ao75 t686.length co75)).setCell ⟨gb692, 1, none⟩ (.slice Ao74 t689.length co74)) = w78 at n0_ n1_ n2_ n3_ n4_ n5_ ⊢
             have HO688 := n0_
             have HO691 := n1_
             have BK684 := n2_
             have BK685 := n3_
             have BK692 := n4_
             have HB := n5_
             clear n0_ n1_ n2_ n3_ n4_ n5_
             have n0_ := Aside0.mk (Kd.R_drew HO688.out)
             have n1_ := Aside0.mk (Kd.R_drew HO691.out)
             have n2_ := Aside0.mk (blk_drew BK684.out)
             have n3_ := Aside0.mk (blk_drew BK685.out)
             have n4_ := Aside0.mk (blk_drew BK692.out)
             have n5_ := Aside0.mk (below_drew1 HB.out)
             clear HO688
             clear HO691
             clear BK684
             clear BK685
             clear BK692
             clear HB
             have HO688 := n0_
             have HO691 := n1_
             have BK684 := n2_
             have BK685 := n3_
             have BK692 := n4_
             have HB := n5_
             clear n0_ n1_ n2_ n3_ n4_ n5_
             have p693 : 0 ≤ ((ji6) : Int) := of_decide_eq_true (by first | (with_reducible assumption) | assumption)
             have q693 : (ji6) < (l0_0.length : Int) := of_decide_eq_true (by first | (with_reducible assumption) | assumption)
             obtain ⟨ad693, e693, hx693_0⟩ := Kd.at_int HR0_0.out (ji6) p693 q693
             have hw693_0 := hx693_0
             cases e693
             replace hx693_0 := (HB.out.cell (World.block_lt_of_cell? w _ hx693_0)).trans hx693_0
             replace p693 := eq_true p693
             replace q693 := eq_true q693
             have p11 : 0 ≤ (a1 : Int) := of_decide_eq_true (by first | (with_reducible assumption) | assumption)
             have q11 : (a1 : Int) < ((t686.length : Int) : Int) := of_decide_eq_true (by first | (with_reducible assumption) | assumption)
             obtain ⟨go11, co11, eo11, gb11, gl11, cl11, HG11⟩ := Kd.R_form HO688.out (by omega)
             (first | cases eo11 | (injection eo11 with ea_ en_ ec_; (first | subst ea_ | (injection ea_ with ea_; subst ea_)); subst ec_; clear en_))
             have GB11 := Aside0.mk gb11
             have GG11 := Aside0.mk HG11
             clear gb11 gl11 HG11
             obtain ⟨hx11_0, hf11_0⟩ := Kd.R_celln 0 HO688.out (a1 : Int) p11 q11
             replace p11 := eq_true p11
             replace q11 := eq_true q11
             have HP80 := Kd.R_putn HO688.out (a1 : Int) (rd l0_0 (ji6))
             rw [← Ny694.out] at HP80
             have HQ80 := Aside0.mk HP80
             clear HP80
             refine start_ (n := 10) (S := fun w' => w'.cell? ⟨gb692, 0, none⟩ = some (.slice (some ⟨go11, 0, none⟩) t686.length co75) ∧ w'.cell? ⟨gb692, 1, none⟩ = some (.slice Ao74 t689.length co74) ∧ w'.cell? ⟨gb684, 0, none⟩ = some (.slice (some ad693) l0_0.length c0_0) ∧ w'.cell? ⟨gb684, 1, none⟩ = some (.slice A0_1 l0_1.length c0_1) ∧ w'.cell? (ad693.add ((ji6)).toNat) = some (.int .i64 (rd l0_0 (ji6)))) (ds := [9]) #[false, false, false, false, false, false, false, false, false, false] (by kernel_rfl) rfl rfl ⟨(blk_cell BK692.out 0).trans rfl, (blk_cell BK692.out 1).trans rfl, (blk_cell BK684.out 0).trans rfl, (blk_cell BK684.out 1).trans rfl, ((HB.out.cell (World.block_lt_of_cell? w _ hw693_0)).trans hw693_0)⟩ (fun hHeld => ?_); refine with_tabW spec_poTop.tab4 spec_poTop.bits4 (fun HT_ HW_ => ?_)
             generalize w78.drew = w79 at HO688 HO691 BK684 BK685 BK692 HB GG11 HQ80 hf11_0 hx11_0 hx693_0 hHeld ⊢
             refine pure_ (i := 0) (N := some 22) (v := ?_) (a' := ?_) #[true, false, false, false, false, false, false, false, false, false] rfl rfl (any_of HT_.out (by kernel_rfl)) (fun _ _ _ h => h) (Or.inl ⟨by rfl, ?_⟩) ?_ ?_
             rotate_left
             ·
              intro w'
              go_simp
              with_reducible rfl
             rotate_left
             ·
              simp only [Act.put, List.setIfInBounds_toArray, List.set_cons_zero, List.set_cons_succ, i64_w, i32_w]
              rfl
             refine pure_ (i := 2) (N := some 24) (v := ?_) (a' := ?_) #[true, false, true, false, false, false, false, false, false, false] rfl rfl (any_of HT_.out (by kernel_rfl)) (fun _ _ _ h => h) (Or.inl ⟨by rfl, ?_⟩) ?_ ?_
             rotate_left
             ·
              intro w'
              go_simp
              with_reducible rfl
             rotate_left
             ·
              simp only [Act.put, List.setIfInBounds_toArray, List.set_cons_zero, List.set_cons_succ, i64_w, i32_w]
              rfl
             refine pure_ (i := 3) (N := some 25) (v := ?_) (a' := ?_) #[true, false, true, true, false, false, false, false, false, false] rfl rfl (any_of HT_.out (by kernel_rfl)) (fun _ _ _ h => h) (Or.inl ⟨by rfl, ?_⟩) ?_ ?_
             rotate_left
             ·
              intro w'
              go_simp
              with_reducible rfl
             rotate_left
             ·
              simp only [Act.put, List.setIfInBounds_toArray, List.set_cons_zero, List.set_cons_succ, i64_w, i32_w]
              rfl
             refine pure_ (i := 5) (N := some 27) (v := ?_) (a' := ?_) #[true, false, true, true, false, true, false, false, false, false] rfl rfl (any_of HT_.out (by kernel_rfl)) (fun _ _ _ h => h) (Or.inl ⟨by rfl, ?_⟩) ?_ ?_
             rotate_left
             ·
              intro w'
              go_simp
              with_reducible rfl
             rotate_left
             ·
              simp only [Act.put, List.setIfInBounds_toArray, List.set_cons_zero, List.set_cons_succ, i64_w, i32_w]
              rfl
             refine take_ (i := 1) (N := some 23) (v := ?_) (a' := ?_) #[true, true, true, true, false, true, false, false, false, false] rfl rfl (take_ofW HT_.out HW_.out (by kernel_rfl)) (fun _ _ _ h => h) (Or.inl ⟨by rfl, ?_⟩) hHeld ?_ ?_
             rotate_left
             ·
              rintro w' ⟨s0, s1, s2, s3, s4⟩
              go_simp
              with_reducible rfl
             rotate_left
             ·
              simp only [Act.put, List.setIfInBounds_toArray, List.set_cons_zero, List.set_cons_succ, i64_w, i32_w]
              rfl
             refine take_ (i := 4) (N := some 26) (v := ?_) (a' := ?_) #[true, true, true, true, true, true, false, false, false, false] rfl rfl (take_ofW HT_.out HW_.out (by kernel_rfl)) (fun _ _ _ h => h) (Or.inl ⟨by rfl, ?_⟩) hHeld ?_ ?_
             rotate_left
             ·
              rintro w' ⟨s0, s1, s2, s3, s4⟩
              go_simp
              with_reducible rfl
             rotate_left
             ·
              simp only [Act.put, List.setIfInBounds_toArray, List.set_cons_zero, List.set_cons_succ, i64_w, i32_w]
              rfl
             refine pure_ (i := 6) (N := some 28) (v := ?_) (a' := ?_) #[true, true, true, true, true, true, true, false, false, false] rfl rfl (any_of HT_.out (by kernel_rfl)) (fun _ _ _ h => h) (Or.inl ⟨by rfl, ?_⟩) ?_ ?_
             rotate_left
             ·
              intro w'
              go_simp
              with_reducible rfl
             rotate_left
             ·
              simp only [Act.put, List.setIfInBounds_toArray, List.set_cons_zero, List.set_cons_succ, i64_w, i32_w]
              rfl
             refine take_ (i := 7) (N := some 29) (v := ?_) (a' := ?_) #[true, true, true, true, true, true, true, true, false, false] rfl rfl (take_ofW HT_.out HW_.out (by kernel_rfl)) (fun _ _ _ h => h) (Or.inl ⟨by rfl, ?_⟩) hHeld ?_ ?_
             rotate_left
             ·
              rintro w' ⟨s0, s1, s2, s3, s4⟩
              go_simp
              with_reducible rfl
             rotate_left
             ·
              simp only [Act.put, List.setIfInBounds_toArray, List.set_cons_zero, List.set_cons_succ, i64_w, i32_w]
              rfl
             refine pure_ (i := 8) (N := some 30) (v := ?_) (a' := ?_) #[true, true, true, true, true, true, true, true, true, false] rfl rfl (any_of HT_.out (by kernel_rfl)) (fun _ _ _ h => h) (Or.inl ⟨by rfl, ?_⟩) ?_ ?_
             rotate_left
             ·
              intro w'
              go_simp
              with_reducible rfl
             rotate_left
             ·
              simp only [Act.put, List.setIfInBounds_toArray, List.set_cons_zero, List.set_cons_succ, i64_w, i32_w]
              rfl
             refine last_ (i := 9) (N := none) #[true, true, true, true, true, true, true, true, true, true] rfl rfl (one_of HT_.out (by kernel_rfl)) (by decide) (fun K hK => ?_)
             refine skip_ (w1 := ?_) (by rfl) rfl ?_ ?_
             rotate_left
             ·
              go_simp
              rfl
             refine hK.out _ _ ?_
             clear hK K
             refine done_ (done_of HT_.out (by kernel_rfl)) ?_
             have n0_ : Aside0 (Kd.R (Kd.int .i64) 3 (w79.setCell ⟨go11, (a1 : Int).toNat, none⟩ (.int .i64 (rd l0_0 (ji6)))) w.heap.size (fun k_ => some k_ ≠ (.slice Ao74 t689.length co74 : Value).ownBlock) (.slice (some ⟨go11, 0, none⟩) t686.length co75) y694) := ⟨by (with_reducible repeat (first | apply Kd.R_alloc | apply Kd.R_drewN | apply Kd.R_drew)); exact HQ80.out⟩
             have n1_ : Aside0 (Kd.R (Kd.int .i64) 3 (w79.setCell ⟨go11, (a1 : Int).toNat, none⟩ (.int .i64 (rd l0_0 (ji6)))) w.heap.size (fun k_ => some k_ ≠ (.slice (some ⟨go11, 0, none⟩) t686.length co75 : Value).ownBlock) (.slice Ao74 t689.length co74) t689) := ⟨by (with_reducible repeat (first | apply Kd.R_alloc | apply Kd.R_drewN | apply Kd.R_drew)); exact Kd.R_mono (Kd.R_far (p := ⟨go11, (a1 : Int).toNat, none⟩) (Kd.R_mono HO691.out (fun k_ hk => (⟨hk, fun e_ => hk (by rw [e_]; rfl)⟩ : _ ∧ k_ ≠ go11))) (fun _ hk => hk.2) (.int .i64 (rd l0_0 (ji6)))) (fun _ hk => hk.1)⟩
             have n2_ : Aside0 ((w79.setCell ⟨go11, (a1 : Int).toNat, none⟩ (.int .i64 (rd l0_0 (ji6)))).heap[gb684]? = some (.cells #[.slice (some ad693) l0_0.length c0_0, .slice A0_1 l0_1.length c0_1] 36 (0, 0))) := ⟨by (with_reducible repeat (first | refine blk_drewN ?_ _ | refine blk_drew ?_ | refine blk_alloc ?_ _)); refine blk_far ?_ (by have h_ := Kd.R_ne HO688.out BK684.out (by decide); intro e_; exact h_ (by rw [e_]; rfl)) _; (with_reducible repeat (first | refine blk_drewN ?_ _ | refine blk_drew ?_ | refine blk_alloc ?_ _)); exact BK684.out⟩
             have n3_ : Aside0 ((w79.setCell ⟨go11, (a1 : Int).toNat, none⟩ (.int .i64 (rd l0_0 (ji6)))).heap[gb685]? = some (.cells #[.slice none 0 0, .slice none 0 0] 36 (0, 0))) := ⟨by (with_reducible repeat (first | refine blk_drewN ?_ _ | refine blk_drew ?_ | refine blk_alloc ?_ _)); refine blk_far ?_ (by have h_ := Kd.R_ne HO688.out BK685.out (by decide); intro e_; exact h_ (by rw [e_]; rfl)) _; (with_reducible repeat (first | refine blk_drewN ?_ _ | refine blk_drew ?_ | refine blk_alloc ?_ _)); exact BK685.out⟩
             have n4_ : Aside0 ((w79.setCell ⟨go11, (a1 : Int).toNat, none⟩ (.int .i64 (rd l0_0 (ji6)))).heap[gb692]? = some (.cells #[.slice (some ⟨go11, 0, none⟩) t686.length co75, .slice Ao74 t689.length co74] 36 (0, 0))) := ⟨by (with_reducible repeat (first | refine blk_drewN ?_ _ | refine blk_drew ?_ | refine blk_alloc ?_ _)); refine blk_far ?_ (by have h_ := Kd.R_ne HO688.out BK692.out (by decide); intro e_; exact h_ (by rw [e_]; rfl)) _; (with_reducible repeat (first | refine blk_drewN ?_ _ | refine blk_drew ?_ | refine blk_alloc ?_ _)); exact BK692.out⟩
             have n5_ : Aside0 (Below w.heap.size w (w79.setCell ⟨go11, (a1 : Int).toNat, none⟩ (.int .i64 (rd l0_0 (ji6))))) := ⟨by repeat (first | (with_reducible first | exact HB.out | apply below_alloc | apply pw_below_drewN | apply below_drew1 | refine below_set ?_ GB11.out | refine below_set ?_ GE684.out | refine below_set ?_ GE685.out | refine below_set ?_ GE692.out) | exact HB.out)⟩
             (try clear HO688)
             (try clear HO691)
             (try clear BK684)
             (try clear BK685)
             (try clear BK692)
             (try clear HB)
             generalize (w79.setCell ⟨go11, (a1 : Int).toNat, none⟩ (.int .i64 (rd l0_0 (ji6)))) = w81 at n0_ n1_ n2_ n3_ n4_ n5_ ⊢
             have HO688 := n0_
             have HO691 := n1_
             have BK684 := n2_
             have BK685 := n3_
             have BK692 := n4_
             have HB := n5_
             clear n0_ n1_ n2_ n3_ n4_ n5_
             try go_wp2
             have n0_ := Aside0.mk (Kd.R_drew HO688.out)
             have n1_ := Aside0.mk (Kd.R_drew HO691.out)
             have n2_ := Aside0.mk (blk_drew BK684.out)
             have n3_ := Aside0.mk (blk_drew BK685.out)
             have n4_ := Aside0.mk (blk_drew BK692.out)
             have n5_ := Aside0.mk (below_drew1 HB.out)
             clear HO688
             clear HO691
             clear BK684
             clear BK685
             clear BK692
             clear HB
             have HO688 := n0_
             have HO691 := n1_
             have BK684 := n2_
             have BK685 := n3_
             have BK692 := n4_
             have HB := n5_
             clear n0_ n1_ n2_ n3_ n4_ n5_
             have p695 : 0 ≤ (a1 : Int) := of_decide_eq_true (by first | (with_reducible assumption) | assumption)
             have q695 : a1 < (l0_0.length : Int) := of_decide_eq_true (by first | (with_reducible assumption) | assumption)
             obtain ⟨ad695, e695, hx695_0⟩ := Kd.at_int HR0_0.out a1 p695 q695
             have hw695_0 := hx695_0
             obtain rfl : ad693 = ad695 := (by injection e695)
             replace hx695_0 := (HB.out.cell (World.block_lt_of_cell? w _ hx695_0)).trans hx695_0
             replace p695 := eq_true p695
             replace q695 := eq_true q695
             have p14 : 0 ≤ ((ji6) : Int) := of_decide_eq_true (by first | (with_reducible assumption) | assumption)
             have q14 : ((ji6) : Int) < ((t686.length : Int) : Int) := of_decide_eq_true (by first | (with_reducible assumption) | assumption)
             obtain ⟨hx14_0, hf14_0⟩ := Kd.R_celln 0 HO688.out ((ji6) : Int) p14 q14
             replace p14 := eq_true p14
             replace q14 := eq_true q14
             have HP83 := Kd.R_putn HO688.out ((ji6) : Int) (rd l0_0 a1)
             rw [← Ny696.out] at HP83
             have HQ83 := Aside0.mk HP83
             clear HP83
             refine start_ (n := 10) (S := fun w' => w'.cell? ⟨gb692, 0, none⟩ = some (.slice (some ⟨go11, 0, none⟩) t686.length co75) ∧ w'.cell? ⟨gb692, 1, none⟩ = some (.slice Ao74 t689.length co74) ∧ w'.cell? ⟨gb684, 0, none⟩ = some (.slice (some ad693) l0_0.length c0_0) ∧ w'.cell? ⟨gb684, 1, none⟩ = some (.slice A0_1 l0_1.length c0_1) ∧ w'.cell? (ad693.add (a1).toNat) = some (.int .i64 (rd l0_0 a1))) (ds := [9]) #[false, false, false, false, false, false, false, false, false, false] (by kernel_rfl) rfl rfl ⟨(blk_cell BK692.out 0).trans rfl, (blk_cell BK692.out 1).trans rfl, (blk_cell BK684.out 0).trans rfl, (blk_cell BK684.out 1).trans rfl, ((HB.out.cell (World.block_lt_of_cell? w _ hw695_0)).trans hw695_0)⟩ (fun hHeld => ?_); refine with_tabW spec_poTop.tab5 spec_poTop.bits5 (fun HT_ HW_ => ?_)
             generalize w81.drew = w82 at HO688 HO691 BK684 BK685 BK692 HB HQ83 hf14_0 hx14_0 hx695_0 hHeld ⊢
             refine pure_ (i := 0) (N := some 31) (v := ?_) (a' := ?_) #[true, false, false, false, false, false, false, false, false, false] rfl rfl (any_of HT_.out (by kernel_rfl)) (fun _ _ _ h => h) (Or.inl ⟨by rfl, ?_⟩) ?_ ?_
             rotate_left
             ·
              intro w'
              go_simp
              with_reducible rfl
             rotate_left
             ·
              simp only [Act.put, List.setIfInBounds_toArray, List.set_cons_zero, List.set_cons_succ, i64_w, i32_w]
              rfl
             refine pure_ (i := 2) (N := some 33) (v := ?_) (a' := ?_) #[true, false, true, false, false, false, false, false, false, false] rfl rfl (any_of HT_.out (by kernel_rfl)) (fun _ _ _ h => h) (Or.inl ⟨by rfl, ?_⟩) ?_ ?_
             rotate_left
             ·
              intro w'
              go_simp
              with_reducible rfl
             rotate_left
             ·
              simp only [Act.put, List.setIfInBounds_toArray, List.set_cons_zero, List.set_cons_succ, i64_w, i32_w]
              rfl
             refine pure_ (i := 3) (N := some 34) (v := ?_) (a' := ?_) #[true, false, true, true, false, false, false, false, false, false] rfl rfl (any_of HT_.out (by kernel_rfl)) (fun _ _ _ h => h) (Or.inl ⟨by rfl, ?_⟩) ?_ ?_
             rotate_left
             ·
              intro w'
              go_simp
              with_reducible rfl
             rotate_left
             ·
              simp only [Act.put, List.setIfInBounds_toArray, List.set_cons_zero, List.set_cons_succ, i64_w, i32_w]
              rfl
             refine pure_ (i := 5) (N := some 36) (v := ?_) (a' := ?_) #[true, false, true, true, false, true, false, false, false, false] rfl rfl (any_of HT_.out (by kernel_rfl)) (fun _ _ _ h => h) (Or.inl ⟨by rfl, ?_⟩) ?_ ?_
             rotate_left
             ·
              intro w'
              go_simp
              with_reducible rfl
             rotate_left
             ·
              simp only [Act.put, List.setIfInBounds_toArray, List.set_cons_zero, List.set_cons_succ, i64_w, i32_w]
              rfl
             refine take_ (i := 1) (N := some 32) (v := ?_) (a' := ?_) #[true, true, true, true, false, true, false, false, false, false] rfl rfl (take_ofW HT_.out HW_.out (by kernel_rfl)) (fun _ _ _ h => h) (Or.inl ⟨by rfl, ?_⟩) hHeld ?_ ?_
             rotate_left
             ·
              rintro w' ⟨s0, s1, s2, s3, s4⟩
              go_simp
              with_reducible rfl
             rotate_left
             ·
              simp only [Act.put, List.setIfInBounds_toArray, List.set_cons_zero, List.set_cons_succ, i64_w, i32_w]
              rfl
             refine take_ (i := 4) (N := some 35) (v := ?_) (a' := ?_) #[true, true, true, true, true, true, false, false, false, false] rfl rfl (take_ofW HT_.out HW_.out (by kernel_rfl)) (fun _ _ _ h => h) (Or.inl ⟨by rfl, ?_⟩) hHeld ?_ ?_
             rotate_left
             ·
              rintro w' ⟨s0, s1, s2, s3, s4⟩
              go_simp
              with_reducible rfl
             rotate_left
             ·
              simp only [Act.put, List.setIfInBounds_toArray, List.set_cons_zero, List.set_cons_succ, i64_w, i32_w]
              rfl
             refine pure_ (i := 6) (N := some 37) (v := ?_) (a' := ?_) #[true, true, true, true, true, true, true, false, false, false] rfl rfl (any_of HT_.out (by kernel_rfl)) (fun _ _ _ h => h) (Or.inl ⟨by rfl, ?_⟩) ?_ ?_
             rotate_left
             ·
              intro w'
              go_simp
              with_reducible rfl
             rotate_left
             ·
              simp only [Act.put, List.setIfInBounds_toArray, List.set_cons_zero, List.set_cons_succ, i64_w, i32_w]
              rfl
             refine take_ (i := 7) (N := some 38) (v := ?_) (a' := ?_) #[true, true, true, true, true, true, true, true, false, false] rfl rfl (take_ofW HT_.out HW_.out (by kernel_rfl)) (fun _ _ _ h => h) (Or.inl ⟨by rfl, ?_⟩) hHeld ?_ ?_
             rotate_left
             ·
              rintro w' ⟨s0, s1, s2, s3, s4⟩
              go_simp
              with_reducible rfl
             rotate_left
             ·
              simp only [Act.put, List.setIfInBounds_toArray, List.set_cons_zero, List.set_cons_succ, i64_w, i32_w]
              rfl
             refine pure_ (i := 8) (N := some 39) (v := ?_) (a' := ?_) #[true, true, true, true, true, true, true, true, true, false] rfl rfl (any_of HT_.out (by kernel_rfl)) (fun _ _ _ h => h) (Or.inl ⟨by rfl, ?_⟩) ?_ ?_
             rotate_left
             ·
              intro w'
              go_simp
              with_reducible rfl
             rotate_left
             ·
              simp only [Act.put, List.setIfInBounds_toArray, List.set_cons_zero, List.set_cons_succ, i64_w, i32_w]
              rfl
             refine last_ (i := 9) (N := none) #[true, true, true, true, true, true, true, true, true, true] rfl rfl (one_of HT_.out (by kernel_rfl)) (by decide) (fun K hK => ?_)
             refine skip_ (w1 := ?_) (by rfl) rfl ?_ ?_
             rotate_left
             ·
              go_simp
              rfl
             refine hK.out _ _ ?_
             clear hK K
             refine done_ (done_of HT_.out (by kernel_rfl)) ?_
             have n0_ : Aside0 (Kd.R (Kd.int .i64) 3 (w82.setCell ⟨go11, ((ji6) : Int).toNat, none⟩ (.int .i64 (rd l0_0 a1))) w.heap.size (fun k_ => some k_ ≠ (.slice Ao74 t689.length co74 : Value).ownBlock) (.slice (some ⟨go11, 0, none⟩) t686.length co75) y696) := ⟨by (with_reducible repeat (first | apply Kd.R_alloc | apply Kd.R_drewN | apply Kd.R_drew)); exact HQ83.out⟩
             have n1_ : Aside0 (Kd.R (Kd.int .i64) 3 (w82.setCell ⟨go11, ((ji6) : Int).toNat, none⟩ (.int .i64 (rd l0_0 a1))) w.heap.size (fun k_ => some k_ ≠ (.slice (some ⟨go11, 0, none⟩) t686.length co75 : Value).ownBlock) (.slice Ao74 t689.length co74) t689) := ⟨by (with_reducible repeat (first | apply Kd.R_alloc | apply Kd.R_drewN | apply Kd.R_drew)); exact Kd.R_mono (Kd.R_far (p := ⟨go11, ((ji6) : Int).toNat, none⟩) (Kd.R_mono HO691.out (fun k_ hk => (⟨hk, fun e_ => hk (by rw [e_]; rfl)⟩ : _ ∧ k_ ≠ go11))) (fun _ hk => hk.2) (.int .i64 (rd l0_0 a1))) (fun _ hk => hk.1)⟩
             have n2_ : Aside0 ((w82.setCell ⟨go11, ((ji6) : Int).toNat, none⟩ (.int .i64 (rd l0_0 a1))).heap[gb684]? = some (.cells #[.slice (some ad693) l0_0.length c0_0, .slice A0_1 l0_1.length c0_1] 36 (0, 0))) := ⟨by (with_reducible repeat (first | refine blk_drewN ?_ _ | refine blk_drew ?_ | refine blk_alloc ?_ _)); refine blk_far ?_ (by have h_ := Kd.R_ne HO688.out BK684.out (by decide); intro e_; exact h_ (by rw [e_]; rfl)) _; (with_reducible repeat (first | refine blk_drewN ?_ _ | refine blk_drew ?_ | refine blk_alloc ?_ _)); exact BK684.out⟩
             have n3_ : Aside0 ((w82.setCell ⟨go11, ((ji6) : Int).toNat, none⟩ (.int .i64 (rd l0_0 a1))).heap[gb685]? = some (.cells #[.slice none 0 0, .slice none 0 0] 36 (0, 0))) := ⟨by (with_reducible repeat (first | refine blk_drewN ?_ _ | refine blk_drew ?_ | refine blk_alloc ?_ _)); refine blk_far ?_ (by have h_ := Kd.R_ne HO688.out BK685.out (by decide); intro e_; exact h_ (by rw [e_]; rfl)) _; (with_reducible repeat (first | refine blk_drewN ?_ _ | refine blk_drew ?_ | refine blk_alloc ?_ _)); exact BK685.out⟩
             have n4_ : Aside0 ((w82.setCell ⟨go11, ((ji6) : Int).toNat, none⟩ (.int .i64 (rd l0_0 a1))).heap[gb692]? = some (.cells #[.slice (some ⟨go11, 0, none⟩) t686.length co75, .slice Ao74 t689.length co74] 36 (0, 0))) := ⟨by (with_reducible repeat (first | refine blk_drewN ?_ _ | refine blk_drew ?_ | refine blk_alloc ?_ _)); refine blk_far ?_ (by have h_ := Kd.R_ne HO688.out BK692.out (by decide); intro e_; exact h_ (by rw [e_]; rfl)) _; (with_reducible repeat (first | refine blk_drewN ?_ _ | refine blk_drew ?_ | refine blk_alloc ?_ _)); exact BK692.out⟩
             have n5_ : Aside0 (Below w.heap.size w (w82.setCell ⟨go11, ((ji6) : Int).toNat, none⟩ (.int .i64 (rd l0_0 a1)))) := ⟨by repeat (first | (with_reducible first | exact HB.out | apply below_alloc | apply pw_below_drewN | apply below_drew1 | refine below_set ?_ GB11.out | refine below_set ?_ GE684.out | refine below_set ?_ GE685.out | refine below_set ?_ GE692.out) | exact HB.out)⟩
             (try clear HO688)
             (try clear HO691)
             (try clear BK684)
             (try clear BK685)
             (try clear BK692)
             (try clear HB)
             generalize (w82.setCell ⟨go11, ((ji6) : Int).toNat, none⟩ (.int .i64 (rd l0_0 a1))) = w84 at n0_ n1_ n2_ n3_ n4_ n5_ ⊢
             have HO688 := n0_
             have HO691 := n1_
             have BK684 := n2_
             have BK685 := n3_
             have BK692 := n4_
             have HB := n5_
             clear n0_ n1_ n2_ n3_ n4_ n5_
             try go_wp2
             have n0_ := Aside0.mk (Kd.R_drew HO688.out)
             have n1_ := Aside0.mk (Kd.R_drew HO691.out)
             have n2_ := Aside0.mk (blk_drew BK684.out)
             have n3_ := Aside0.mk (blk_drew BK685.out)
             have n4_ := Aside0.mk (blk_drew BK692.out)
             have n5_ := Aside0.mk (below_drew1 HB.out)
             clear HO688
             clear HO691
             clear BK684
             clear BK685
             clear BK692
             clear HB
             have HO688 := n0_
             have HO691 := n1_
             have BK684 := n2_
             have BK685 := n3_
             have BK692 := n4_
             have HB := n5_
             clear n0_ n1_ n2_ n3_ n4_ n5_
             have p697 : 0 ≤ ((ji6) : Int) := of_decide_eq_true (by first | (with_reducible assumption) | assumption)
             have q697 : (ji6) < (l0_1.length : Int) := of_decide_eq_true (by first | (with_reducible assumption) | assumption)
             obtain ⟨ad697, e697, hx697_0⟩ := Kd.at_int HR0_1.out (ji6) p697 q697
             have hw697_0 := hx697_0
             cases e697
             replace hx697_0 := (HB.out.cell (World.block_lt_of_cell? w _ hx697_0)).trans hx697_0
             replace p697 := eq_true p697
             replace q697 := eq_true q697
             have p17 : 0 ≤ (a1 : Int) := of_decide_eq_true (by first | (with_reducible assumption) | assumption)
             have q17 : (a1 : Int) < ((t689.length : Int) : Int) := of_decide_eq_true (by first | (with_reducible assumption) | assumption)
             obtain ⟨go17, co17, eo17, gb17, gl17, cl17, HG17⟩ := Kd.R_form HO691.out (by omega)
             (first | cases eo17 | (injection eo17 with ea_ en_ ec_; (first | subst ea_ | (injection ea_ with ea_; subst ea_)); subst ec_; clear en_))
             have GB17 := Aside0.mk gb17
             have GG17 := Aside0.mk HG17
             clear gb17 gl17 HG17
             obtain ⟨hx17_0, hf17_0⟩ := Kd.R_celln 0 HO691.out (a1 : Int) p17 q17
             replace p17 := eq_true p17
             replace q17 := eq_true q17
             have HP86 := Kd.R_putn HO691.out (a1 : Int) (rd l0_1 (ji6))
             rw [← Ny698.out] at HP86
             have HQ86 := Aside0.mk HP86
             clear HP86
             refine start_ (n := 10) (S := fun w' => w'.cell? ⟨gb692, 0, none⟩ = some (.slice (some ⟨go11, 0, none⟩) t686.length co75) ∧ w'.cell? ⟨gb692, 1, none⟩ = some (.slice (some ⟨go17, 0, none⟩) t689.length co74) ∧ w'.cell? ⟨gb684, 0, none⟩ = some (.slice (some ad693) l0_0.length c0_0) ∧ w'.cell? ⟨gb684, 1, none⟩ = some (.slice (some ad697) l0_1.length c0_1) ∧ w'.cell? (ad697.add ((ji6)).toNat) = some (.int .i64 (rd l0_1 (ji6)))) (ds := [9]) #[false, false, false, false, false, false, false, false, false, false] (by kernel_rfl) rfl rfl ⟨(blk_cell BK692.out 0).trans rfl, (blk_cell BK692.out 1).trans rfl, (blk_cell BK684.out 0).trans rfl, (blk_cell BK684.out 1).trans rfl, ((HB.out.cell (World.block_lt_of_cell? w _ hw697_0)).trans hw697_0)⟩ (fun hHeld => ?_); refine with_tabW spec_poTop.tab6 spec_poTop.bits6 (fun HT_ HW_ => ?_)
             generalize w84.drew = w85 at HO688 HO691 BK684 BK685 BK692 HB GG17 HQ86 hf17_0 hx17_0 hx697_0 hHeld ⊢
             refine pure_ (i := 0) (N := some 40) (v := ?_) (a' := ?_) #[true, false, false, false, false, false, false, false, false, false] rfl rfl (any_of HT_.out (by kernel_rfl)) (fun _ _ _ h => h) (Or.inl ⟨by rfl, ?_⟩) ?_ ?_
             rotate_left
             ·
              intro w'
              go_simp
              with_reducible rfl
             rotate_left
             ·
              simp only [Act.put, List.setIfInBounds_toArray, List.set_cons_zero, List.set_cons_succ, i64_w, i32_w]
              rfl
             refine pure_ (i := 2) (N := some 42) (v := ?_) (a' := ?_) #[true, false, true, false, false, false, false, false, false, false] rfl rfl (any_of HT_.out (by kernel_rfl)) (fun _ _ _ h => h) (Or.inl ⟨by rfl, ?_⟩) ?_ ?_
             rotate_left
             ·
              intro w'
              go_simp
              with_reducible rfl
             rotate_left
             ·
              simp only [Act.put, List.setIfInBounds_toArray, List.set_cons_zero, List.set_cons_succ, i64_w, i32_w]
              rfl
             refine pure_ (i := 3) (N := some 43) (v := ?_) (a' := ?_) #[true, false, true, true, false, false, false, false, false, false] rfl rfl (any_of HT_.out (by kernel_rfl)) (fun _ _ _ h => h) (Or.inl ⟨by rfl, ?_⟩) ?_ ?_
             rotate_left
             ·
              intro w'
              go_simp
              with_reducible rfl
             rotate_left
             ·
              simp only [Act.put, List.setIfInBounds_toArray, List.set_cons_zero, List.set_cons_succ, i64_w, i32_w]
              rfl
             refine pure_ (i := 5) (N := some 45) (v := ?_) (a' := ?_) #[true, false, true, true, false, true, false, false, false, false] rfl rfl (any_of HT_.out (by kernel_rfl)) (fun _ _ _ h => h) (Or.inl ⟨by rfl, ?_⟩) ?_ ?_
             rotate_left
             ·
              intro w'
              go_simp
              with_reducible rfl
             rotate_left
             ·
              simp only [Act.put, List.setIfInBounds_toArray, List.set_cons_zero, List.set_cons_succ, i64_w, i32_w]
              rfl
             refine take_ (i := 1) (N := some 41) (v := ?_) (a' := ?_) #[true, true, true, true, false, true, false, false, false, false] rfl rfl (take_ofW HT_.out HW_.out (by kernel_rfl)) (fun _ _ _ h => h) (Or.inl ⟨by rfl, ?_⟩) hHeld ?_ ?_
             rotate_left
             ·
              rintro w' ⟨s0, s1, s2, s3, s4⟩
              go_simp
              with_reducible rfl
             rotate_left
             ·
              simp only [Act.put, List.setIfInBounds_toArray, List.set_cons_zero, List.set_cons_succ, i64_w, i32_w]
              rfl
             refine take_ (i := 4) (N := some 44) (v := ?_) (a' := ?_) #[true, true, true, true, true, true, false, false, false, false] rfl rfl (take_ofW HT_.out HW_.out (by kernel_rfl)) (fun _ _ _ h => h) (Or.inl ⟨by rfl, ?_⟩) hHeld ?_ ?_
             rotate_left
             ·
              rintro w' ⟨s0, s1, s2, s3, s4⟩
              go_simp
              with_reducible rfl
             rotate_left
             ·
              simp only [Act.put, List.setIfInBounds_toArray, List.set_cons_zero, List.set_cons_succ, i64_w, i32_w]
              rfl
             refine pure_ (i := 6) (N := some 46) (v := ?_) (a' := ?_) #[true, true, true, true, true, true, true, false, false, false] rfl rfl (any_of HT_.out (by kernel_rfl)) (fun _ _ _ h => h) (Or.inl ⟨by rfl, ?_⟩) ?_ ?_
             rotate_left
             ·
              intro w'
              go_simp
              with_reducible rfl
             rotate_left
             ·
              simp only [Act.put, List.setIfInBounds_toArray, List.set_cons_zero, List.set_cons_succ, i64_w, i32_w]
              rfl
             refine take_ (i := 7) (N := some 47) (v := ?_) (a' := ?_) #[true, true, true, true, true, true, true, true, false, false] rfl rfl (take_ofW HT_.out HW_.out (by kernel_rfl)) (fun _ _ _ h => h) (Or.inl ⟨by rfl, ?_⟩) hHeld ?_ ?_
             rotate_left
             ·
              rintro w' ⟨s0, s1, s2, s3, s4⟩
              go_simp
              with_reducible rfl
             rotate_left
             ·
              simp only [Act.put, List.setIfInBounds_toArray, List.set_cons_zero, List.set_cons_succ, i64_w, i32_w]
              rfl
             refine pure_ (i := 8) (N := some 48) (v := ?_) (a' := ?_) #[true, true, true, true, true, true, true, true, true, false] rfl rfl (any_of HT_.out (by kernel_rfl)) (fun _ _ _ h => h) (Or.inl ⟨by rfl, ?_⟩) ?_ ?_
             rotate_left
             ·
              intro w'
              go_simp
              with_reducible rfl
             rotate_left
             ·
              simp only [Act.put, List.setIfInBounds_toArray, List.set_cons_zero, List.set_cons_succ, i64_w, i32_w]
              rfl
             refine last_ (i := 9) (N := none) #[true, true, true, true, true, true, true, true, true, true] rfl rfl (one_of HT_.out (by kernel_rfl)) (by decide) (fun K hK => ?_)
             refine skip_ (w1 := ?_) (by rfl) rfl ?_ ?_
             rotate_left
             ·
              go_simp
              rfl
             refine hK.out _ _ ?_
             clear hK K
             refine done_ (done_of HT_.out (by kernel_rfl)) ?_
             have n0_ : Aside0 (Kd.R (Kd.int .i64) 3 (w85.setCell ⟨go17, (a1 : Int).toNat, none⟩ (.int .i64 (rd l0_1 (ji6)))) w.heap.size (fun k_ => some k_ ≠ (.slice (some ⟨go17, 0, none⟩) t689.length co74 : Value).ownBlock) (.slice (some ⟨go11, 0, none⟩) t686.length co75) y696) := ⟨by (with_reducible repeat (first | apply Kd.R_alloc | apply Kd.R_drewN | apply Kd.R_drew)); exact Kd.R_mono (Kd.R_far (p := ⟨go17, (a1 : Int).toNat, none⟩) (Kd.R_mono HO688.out (fun k_ hk => (⟨hk, fun e_ => hk (by rw [e_]; rfl)⟩ : _ ∧ k_ ≠ go17))) (fun _ hk => hk.2) (.int .i64 (rd l0_1 (ji6)))) (fun _ hk => hk.1)⟩
             have n1_ : Aside0 (Kd.R (Kd.int .i64) 3 (w85.setCell ⟨go17, (a1 : Int).toNat, none⟩ (.int .i64 (rd l0_1 (ji6)))) w.heap.size (fun k_ => some k_ ≠ (.slice (some ⟨go11, 0, none⟩) t686.length co75 : Value).ownBlock) (.slice (some ⟨go17, 0, none⟩) t689.length co74) y698) := ⟨by (with_reducible repeat (first | apply Kd.R_alloc | apply Kd.R_drewN | apply Kd.R_drew)); exact HQ86.out⟩
             have n2_ : Aside0 ((w85.setCell ⟨go17, (a1 : Int).toNat, none⟩ (.int .i64 (rd l0_1 (ji6)))).heap[gb684]? = some (.cells #[.slice (some ad693) l0_0.length c0_0, .slice (some ad697) l0_1.length c0_1] 36 (0, 0))) := ⟨by (with_reducible repeat (first | refine blk_drewN ?_ _ | refine blk_drew ?_ | refine blk_alloc ?_ _)); refine blk_far ?_ (by have h_ := Kd.R_ne HO691.out BK684.out (by decide); intro e_; exact h_ (by rw [e_]; rfl)) _; (with_reducible repeat (first | refine blk_drewN ?_ _ | refine blk_drew ?_ | refine blk_alloc ?_ _)); exact BK684.out⟩
             have n3_ : Aside0 ((w85.setCell ⟨go17, (a1 : Int).toNat, none⟩ (.int .i64 (rd l0_1 (ji6)))).heap[gb685]? = some (.cells #[.slice none 0 0, .slice none 0 0] 36 (0, 0))) := ⟨by (with_reducible repeat (first | refine blk_drewN ?_ _ | refine blk_drew ?_ | refine blk_alloc ?_ _)); refine blk_far ?_ (by have h_ := Kd.R_ne HO691.out BK685.out (by decide); intro e_; exact h_ (by rw [e_]; rfl)) _; (with_reducible repeat (first | refine blk_drewN ?_ _ | refine blk_drew ?_ | refine blk_alloc ?_ _)); exact BK685.out⟩
             have n4_ : Aside0 ((w85.setCell ⟨go17, (a1 : Int).toNat, none⟩ (.int .i64 (rd l0_1 (ji6)))).heap[gb692]? = some (.cells #[.slice (some ⟨go11, 0, none⟩) t686.length co75, .slice (some ⟨go17, 0, none⟩) t689.length co74] 36 (0, 0))) := ⟨by (with_reducible repeat (first | refine blk_drewN ?_ _ | refine blk_drew ?_ | refine blk_alloc ?_ _)); refine blk_far ?_ (by have h_ := Kd.R_ne HO691.out BK692.out (by decide); intro e_; exact h_ (by rw [e_]; rfl)) _; (with_reducible repeat (first | refine blk_drewN ?_ _ | refine blk_drew ?_ | refine blk_alloc ?_ _)); exact BK692.out⟩
             have n5_ : Aside0 (Below w.heap.size w (w85.setCell ⟨go17, (a1 : Int).toNat, none⟩ (.int .i64 (rd l0_1 (ji6))))) := ⟨by repeat (first | (with_reducible first | exact HB.out | apply below_alloc | apply pw_below_drewN | apply below_drew1 | refine below_set ?_ GB17.out | refine below_set ?_ GE684.out | refine below_set ?_ GE685.out | refine below_set ?_ GE692.out) | exact HB.out)⟩
             (try clear HO688)
             (try clear HO691)
             (try clear BK684)
             (try clear BK685)
             (try clear BK692)
             (try clear HB)
             generalize (w85.setCell ⟨go17, (a1 : Int).toNat, none⟩ (.int .i64 (rd l0_1 (ji6)))) = w87 at n0_ n1_ n2_ n3_ n4_ n5_ ⊢
             have HO688 := n0_
             have HO691 := n1_
             have BK684 := n2_
             have BK685 := n3_
             have BK692 := n4_
             have HB := n5_
             clear n0_ n1_ n2_ n3_ n4_ n5_
             try go_wp2
             have n0_ := Aside0.mk (Kd.R_drew HO688.out)
             have n1_ := Aside0.mk (Kd.R_drew HO691.out)
             have n2_ := Aside0.mk (blk_drew BK684.out)
             have n3_ := Aside0.mk (blk_drew BK685.out)
             have n4_ := Aside0.mk (blk_drew BK692.out)
             have n5_ := Aside0.mk (below_drew1 HB.out)
             clear HO688
             clear HO691
             clear BK684
             clear BK685
             clear BK692
             clear HB
             have HO688 := n0_
             have HO691 := n1_
             have BK684 := n2_
             have BK685 := n3_
             have BK692 := n4_
             have HB := n5_
             clear n0_ n1_ n2_ n3_ n4_ n5_
             have p699 : 0 ≤ (a1 : Int) := of_decide_eq_true (by first | (with_reducible assumption) | assumption)
             have q699 : a1 < (l0_1.length : Int) := of_decide_eq_true (by first | (with_reducible assumption) | assumption)
             obtain ⟨ad699, e699, hx699_0⟩ := Kd.at_int HR0_1.out a1 p699 q699
             have hw699_0 := hx699_0
             obtain rfl : ad697 = ad699 := (by injection e699)
             replace hx699_0 := (HB.out.cell (World.block_lt_of_cell? w _ hx699_0)).trans hx699_0
             replace p699 := eq_true p699
             replace q699 := eq_true q699
             have p20 : 0 ≤ ((ji6) : Int) := of_decide_eq_true (by first | (with_reducible assumption) | assumption)
             have q20 : ((ji6) : Int) < ((t689.length : Int) : Int) := of_decide_eq_true (by first | (with_reducible assumption) | assumption)
             obtain ⟨hx20_0, hf20_0⟩ := Kd.R_celln 0 HO691.out ((ji6) : Int) p20 q20
             replace p20 := eq_true p20
             replace q20 := eq_true q20
             have HP89 := Kd.R_putn HO691.out ((ji6) : Int) (rd l0_1 a1)
             rw [← Ny700.out] at HP89
             have HQ89 := Aside0.mk HP89
             clear HP89
             refine start_ (n := 10) (S := fun w' => w'.cell? ⟨gb692, 0, none⟩ = some (.slice (some ⟨go11, 0, none⟩) t686.length co75) ∧ w'.cell? ⟨gb692, 1, none⟩ = some (.slice (some ⟨go17, 0, none⟩) t689.length co74) ∧ w'.cell? ⟨gb684, 0, none⟩ = some (.slice (some ad693) l0_0.length c0_0) ∧ w'.cell? ⟨gb684, 1, none⟩ = some (.slice (some ad697) l0_1.length c0_1) ∧ w'.cell? (ad697.add (a1).toNat) = some (.int .i64 (rd l0_1 a1))) (ds := [9]) #[false, false, false, false, false, false, false, false, false, false] (by kernel_rfl) rfl rfl ⟨(blk_cell BK692.out 0).trans rfl, (blk_cell BK692.out 1).trans rfl, (blk_cell BK684.out 0).trans rfl, (blk_cell BK684.out 1).trans rfl, ((HB.out.cell (World.block_lt_of_cell? w _ hw699_0)).trans hw699_0)⟩ (fun hHeld => ?_); refine with_tabW spec_poTop.tab7 spec_poTop.bits7 (fun HT_ HW_ => ?_)
             generalize w87.drew = w88 at HO688 HO691 BK684 BK685 BK692 HB HQ89 hf20_0 hx20_0 hx699_0 hHeld ⊢
             refine pure_ (i := 0) (N := some 49) (v := ?_) (a' := ?_) #[true, false, false, false, false, false, false, false, false, false] rfl rfl (any_of HT_.out (by kernel_rfl)) (fun _ _ _ h => h) (Or.inl ⟨by rfl, ?_⟩) ?_ ?_
             rotate_left
             ·
              intro w'
              go_simp
              with_reducible rfl
             rotate_left
             ·
              simp only [Act.put, List.setIfInBounds_toArray, List.set_cons_zero, List.set_cons_succ, i64_w, i32_w]
              rfl
             refine pure_ (i := 2) (N := some 51) (v := ?_) (a' := ?_) #[true, false, true, false, false, false, false, false, false, false] rfl rfl (any_of HT_.out (by kernel_rfl)) (fun _ _ _ h => h) (Or.inl ⟨by rfl, ?_⟩) ?_ ?_
             rotate_left
             ·
              intro w'
              go_simp
              with_reducible rfl
             rotate_left
             ·
              simp only [Act.put, List.setIfInBounds_toArray, List.set_cons_zero, List.set_cons_succ, i64_w, i32_w]
              rfl
             refine pure_ (i := 3) (N := some 52) (v := ?_) (a' := ?_) #[true, false, true, true, false, false, false, false, false, false] rfl rfl (any_of HT_.out (by kernel_rfl)) (fun _ _ _ h => h) (Or.inl ⟨by rfl, ?_⟩) ?_ ?_
             rotate_left
             ·
              intro w'
              go_simp
              with_reducible rfl
             rotate_left
             ·
              simp only [Act.put, List.setIfInBounds_toArray, List.set_cons_zero, List.set_cons_succ, i64_w, i32_w]
              rfl
             refine pure_ (i := 5) (N := some 54) (v := ?_) (a' := ?_) #[true, false, true, true, false, true, false, false, false, false] rfl rfl (any_of HT_.out (by kernel_rfl)) (fun _ _ _ h => h) (Or.inl ⟨by rfl, ?_⟩) ?_ ?_
             rotate_left
             ·
              intro w'
              go_simp
              with_reducible rfl
             rotate_left
             ·
              simp only [Act.put, List.setIfInBounds_toArray, List.set_cons_zero, List.set_cons_succ, i64_w, i32_w]
              rfl
             refine take_ (i := 1) (N := some 50) (v := ?_) (a' := ?_) #[true, true, true, true, false, true, false, false, false, false] rfl rfl (take_ofW HT_.out HW_.out (by kernel_rfl)) (fun _ _ _ h => h) (Or.inl ⟨by rfl, ?_⟩) hHeld ?_ ?_
             rotate_left
             ·
              rintro w' ⟨s0, s1, s2, s3, s4⟩
              go_simp
              with_reducible rfl
             rotate_left
             ·
              simp only [Act.put, List.setIfInBounds_toArray, List.set_cons_zero, List.set_cons_succ, i64_w, i32_w]
              rfl
             refine take_ (i := 4) (N := some 53) (v := ?_) (a' := ?_) #[true, true, true, true, true, true, false, false, false, false] rfl rfl (take_ofW HT_.out HW_.out (by kernel_rfl)) (fun _ _ _ h => h) (Or.inl ⟨by rfl, ?_⟩) hHeld ?_ ?_
             rotate_left
             ·
              rintro w' ⟨s0, s1, s2, s3, s4⟩
              go_simp
              with_reducible rfl
             rotate_left
             ·
              simp only [Act.put, List.setIfInBounds_toArray, List.set_cons_zero, List.set_cons_succ, i64_w, i32_w]
              rfl
             refine pure_ (i := 6) (N := some 55) (v := ?_) (a' := ?_) #[true, true, true, true, true, true, true, false, false, false] rfl rfl (any_of HT_.out (by kernel_rfl)) (fun _ _ _ h => h) (Or.inl ⟨by rfl, ?_⟩) ?_ ?_
             rotate_left
             ·
              intro w'
              go_simp
              with_reducible rfl
             rotate_left
             ·
              simp only [Act.put, List.setIfInBounds_toArray, List.set_cons_zero, List.set_cons_succ, i64_w, i32_w]
              rfl
             refine take_ (i := 7) (N := some 56) (v := ?_) (a' := ?_) #[true, true, true, true, true, true, true, true, false, false] rfl rfl (take_ofW HT_.out HW_.out (by kernel_rfl)) (fun _ _ _ h => h) (Or.inl ⟨by rfl, ?_⟩) hHeld ?_ ?_
             rotate_left
             ·
              rintro w' ⟨s0, s1, s2, s3, s4⟩
              go_simp
              with_reducible rfl
             rotate_left
             ·
              simp only [Act.put, List.setIfInBounds_toArray, List.set_cons_zero, List.set_cons_succ, i64_w, i32_w]
              rfl
             refine pure_ (i := 8) (N := some 57) (v := ?_) (a' := ?_) #[true, true, true, true, true, true, true, true, true, false] rfl rfl (any_of HT_.out (by kernel_rfl)) (fun _ _ _ h => h) (Or.inl ⟨by rfl, ?_⟩) ?_ ?_
             rotate_left
             ·
              intro w'
              go_simp
              with_reducible rfl
             rotate_left
             ·
              simp only [Act.put, List.setIfInBounds_toArray, List.set_cons_zero, List.set_cons_succ, i64_w, i32_w]
              rfl
             refine last_ (i := 9) (N := none) #[true, true, true, true, true, true, true, true, true, true] rfl rfl (one_of HT_.out (by kernel_rfl)) (by decide) (fun K hK => ?_)
             refine skip_ (w1 := ?_) (by rfl) rfl ?_ ?_
             rotate_left
             ·
              go_simp
              rfl
             refine hK.out _ _ ?_
             clear hK K
             refine done_ (done_of HT_.out (by kernel_rfl)) ?_
             have n0_ : Aside0 (Kd.R (Kd.int .i64) 3 (w88.setCell ⟨go17, ((ji6) : Int).toNat, none⟩ (.int .i64 (rd l0_1 a1))) w.heap.size (fun k_ => some k_ ≠ (.slice (some ⟨go17, 0, none⟩) t689.length co74 : Value).ownBlock) (.slice (some ⟨go11, 0, none⟩) t686.length co75) y696) := ⟨by (with_reducible repeat (first | apply Kd.R_alloc | apply Kd.R_drewN | apply Kd.R_drew)); exact Kd.R_mono (Kd.R_far (p := ⟨go17, ((ji6) : Int).toNat, none⟩) (Kd.R_mono HO688.out (fun k_ hk => (⟨hk, fun e_ => hk (by rw [e_]; rfl)⟩ : _ ∧ k_ ≠ go17))) (fun _ hk => hk.2) (.int .i64 (rd l0_1 a1))) (fun _ hk => hk.1)⟩
             have n1_ : Aside0 (Kd.R (Kd.int .i64) 3 (w88.setCell ⟨go17, ((ji6) : Int).toNat, none⟩ (.int .i64 (rd l0_1 a1))) w.heap.size (fun k_ => some k_ ≠ (.slice (some ⟨go11, 0, none⟩) t686.length co75 : Value).ownBlock) (.slice (some ⟨go17, 0, none⟩) t689.length co74) y700) := ⟨by (with_reducible repeat (first | apply Kd.R_alloc | apply Kd.R_drewN | apply Kd.R_drew)); exact HQ89.out⟩
             have n2_ : Aside0 ((w88.setCell ⟨go17, ((ji6) : Int).toNat, none⟩ (.int .i64 (rd l0_1 a1))).heap[gb684]? = some (.cells #[.slice (some ad693) l0_0.length c0_0, .slice (some ad697) l0_1.length c0_1] 36 (0, 0))) := ⟨by (with_reducible repeat (first | refine blk_drewN ?_ _ | refine blk_drew ?_ | refine blk_alloc ?_ _)); refine blk_far ?_ (by have h_ := Kd.R_ne HO691.out BK684.out (by decide); intro e_; exact h_ (by rw [e_]; rfl)) _; (with_reducible repeat (first | refine blk_drewN ?_ _ | refine blk_drew ?_ | refine blk_alloc ?_ _)); exact BK684.out⟩
             have n3_ : Aside0 ((w88.setCell ⟨go17, ((ji6) : Int).toNat, none⟩ (.int .i64 (rd l0_1 a1))).heap[gb685]? = some (.cells #[.slice none 0 0, .slice none 0 0] 36 (0, 0))) := ⟨by (with_reducible repeat (first | refine blk_drewN ?_ _ | refine blk_drew ?_ | refine blk_alloc ?_ _)); refine blk_far ?_ (by have h_ := Kd.R_ne HO691.out BK685.out (by decide); intro e_; exact h_ (by rw [e_]; rfl)) _; (with_reducible repeat (first | refine blk_drewN ?_ _ | refine blk_drew ?_ | refine blk_alloc ?_ _)); exact BK685.out⟩
             have n4_ : Aside0 ((w88.setCell ⟨go17, ((ji6) : Int).toNat, none⟩ (.int .i64 (rd l0_1 a1))).heap[gb692]? = some (.cells #[.slice (some ⟨go11, 0, none⟩) t686.length co75, .slice (some ⟨go17, 0, none⟩) t689.length co74] 36 (0, 0))) := ⟨by (with_reducible repeat (first | refine blk_drewN ?_ _ | refine blk_drew ?_ | refine blk_alloc ?_ _)); refine blk_far ?_ (by have h_ := Kd.R_ne HO691.out BK692.out (by decide); intro e_; exact h_ (by rw [e_]; rfl)) _; (with_reducible repeat (first | refine blk_drewN ?_ _ | refine blk_drew ?_ | refine blk_alloc ?_ _)); exact BK692.out⟩
             have n5_ : Aside0 (Below w.heap.size w (w88.setCell ⟨go17, ((ji6) : Int).toNat, none⟩ (.int .i64 (rd l0_1 a1)))) := ⟨by repeat (first | (with_reducible first | exact HB.out | apply below_alloc | apply pw_below_drewN | apply below_drew1 | refine below_set ?_ GB17.out | refine below_set ?_ GE684.out | refine below_set ?_ GE685.out | refine below_set ?_ GE692.out) | exact HB.out)⟩
             (try clear HO688)
             (try clear HO691)
             (try clear BK684)
             (try clear BK685)
             (try clear BK692)
             (try clear HB)
             generalize (w88.setCell ⟨go17, ((ji6) : Int).toNat, none⟩ (.int .i64 (rd l0_1 a1))) = w90 at n0_ n1_ n2_ n3_ n4_ n5_ ⊢
             have HO688 := n0_
             have HO691 := n1_
             have BK684 := n2_
             have BK685 := n3_
             have BK692 := n4_
             have HB := n5_
             clear n0_ n1_ n2_ n3_ n4_ n5_
             have hnb91 := NB692_684.out
             have hnc91 := NB684_692.out
             have hnb92 := NB692_685.out
             have hnc92 := NB685_692.out
             have hcz93_0 : w90.cell? ⟨gb692, 0, none⟩ = some (.slice (some ⟨go11, 0, none⟩) t686.length co75) := (blk_cell BK692.out 0).trans rfl
             have hcz93_1 : w90.cell? ⟨gb692, 1, none⟩ = some (.slice (some ⟨go17, 0, none⟩) t689.length co74) := (blk_cell BK692.out 1).trans rfl
             have hfz93_0 := blk_frozen BK692.out 0
             have hfz93_1 := blk_frozen BK692.out 1
             have hcz94_0 : w90.cell? ⟨gb685, 0, none⟩ = some (.slice none 0 0) := (blk_cell BK685.out 0).trans rfl
             have hcz94_1 : w90.cell? ⟨gb685, 1, none⟩ = some (.slice none 0 0) := (blk_cell BK685.out 1).trans rfl
             have hfz94_0 := blk_frozen BK685.out 0
             have hfz94_1 := blk_frozen BK685.out 1
             try go_wp2
             refine bodyPost_ret (results_cell_row rfl _ _ gb685 36 #[.slice (some ⟨go11, 0, none⟩) t686.length co75, .slice (some ⟨go17, 0, none⟩) t689.length co74] (0, 0) _ rfl (by (with_reducible repeat (first | refine blk_drewN ?_ _ | refine blk_drew ?_ | refine blk_alloc ?_ _)); refine blk_put (cs := #[.slice (some ⟨go11, 0, none⟩) t686.length co75, .slice none 0 0]) ?_ 1 _ rfl; (with_reducible repeat (first | refine blk_drewN ?_ _ | refine blk_drew ?_ | refine blk_alloc ?_ _)); refine blk_put (cs := #[.slice none 0 0, .slice none 0 0]) ?_ 0 _ rfl; (with_reducible repeat (first | refine blk_drewN ?_ _ | refine blk_drew ?_ | refine blk_alloc ?_ _)); exact BK685.out) Try.underlying36 rfl (by kernel_rfl)) rfl ?_
             exact ⟨_, _, by first | rfl | (simp [errW_none, errW_some] <;> rfl) | (simp only [← hji6]; first | rfl | (simp [errW_none, errW_some] <;> rfl)) | (simp [*, errW_none, errW_some] <;> rfl), by (with_reducible repeat (first | apply Kd.R_alloc | apply Kd.R_drewN | apply Kd.R_drew)); exact Kd.R_mono (Kd.R_far (p := ⟨gb685, 1, none⟩) (Kd.R_far (p := ⟨gb685, 0, none⟩) (Kd.R_types HO688.out BK685.out (by decide)) (fun _ hk => hk.2) (.slice (some ⟨go11, 0, none⟩) t686.length co75)) (fun _ hk => hk.2) (.slice (some ⟨go17, 0, none⟩) t689.length co74)) (fun _ hk => hk.1), by (with_reducible repeat (first | apply Kd.R_alloc | apply Kd.R_drewN | apply Kd.R_drew)); exact Kd.R_mono (Kd.R_far (p := ⟨gb685, 1, none⟩) (Kd.R_far (p := ⟨gb685, 0, none⟩) (Kd.R_types HO691.out BK685.out (by decide)) (fun _ hk => hk.2) (.slice (some ⟨go11, 0, none⟩) t686.length co75)) (fun _ hk => hk.2) (.slice (some ⟨go17, 0, none⟩) t689.length co74)) (fun _ hk => hk.1), by repeat (first | (with_reducible first | exact HB.out | apply below_alloc | apply pw_below_drewN | apply below_drew1 | refine below_set ?_ GE684.out | refine below_set ?_ GE685.out | refine below_set ?_ GE692.out) | exact HB.out)⟩
           ·
            rw [if_neg c19] at H
            exact absurd H (by simp)
          ·
           rw [if_neg c18] at H
           exact absurd H (by simp)
         ·
          rw [if_neg c16] at H
          exact absurd H (by simp)
        ·
         rw [if_neg c15] at H
         exact absurd H (by simp)
       ·
        rw [if_neg c13] at H
        exact absurd H (by simp)
      ·
       rw [if_neg c12] at H
       exact absurd H (by simp)
     ·
      rw [if_neg c10] at H
      exact absurd H (by simp)
    ·
     rw [if_neg c9] at H
     exact absurd H (by simp)
   ·
    rw [if_neg c8] at H
    exact absurd H (by simp)
  ·
   rw [if_neg c7] at H
   exact absurd H (by simp)

end Go.Proofs.Ytgjamcfnpofbhaa.Q
