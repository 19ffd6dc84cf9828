/- Each function below comes to the Lean function beside it (theorems '.calls'); no condition beyond each theorem's own. Written by our program oprint.py over the kit's print. -/
import Derived.Test.YtabobnlpcapohaaQm0
import Derived.Test.YtabobnlpcapohaaQm1
import Derived.Maps.RangeWalk
import Derived.Maps.OwnSet
import Derived.Lib.AtoiErrMem
import Derived.Lib.BufferMore
import Derived.Maps.OwnOps
namespace Go.Proofs.Ytabobnlpcapohaa.Q
open Go.RowKit Go.Proofs.YtabobnlpcapohaaW.PrintWords Go.Proofs.YtabobnlpcapohaaW.PrintLast Go.Proofs.YtabobnlpcapohaaW.PrintMore
attribute [local go_sem] max2_int min2_int max_two min_two max_three min_three max_four min_four
set_option linter.unusedVariables false
set_option linter.unusedSimpArgs false

def impl_isTold.f (a0 : Int) (a1 : Int) : Option (Bool) := (impl_isFall.f a0 a1).bind fun t212 => (if t212 = true then (some (decide (a0 ≤ 5))) else (some false))
set_option maxHeartbeats 8000000 in
set_option maxRecDepth 100000 in
theorem impl_isTold.calls (a0 : Int) (a1 : Int) (r : Bool) (w : World) (h : impl_isTold.f a0 a1 = some r) :
  Calls Try.prog 34 #[.int .i64 a0, .int .i64 a1] w fun e w' => e = .returned (.bool r) ∧ Drawn0 w w' := by
 (have H : ((impl_isFall.f a0 a1).bind fun t212 => (if t212 = true then (some (decide (a0 ≤ 5))) else (some false))) = some r := h; clear h); replace H := Option.bind_eq_some_iff.mp H; obtain ⟨t212, A30, H⟩ := H; (try dsimp only at H); have A3 := Aside0.mk A30; clear A30
 by_cases c4 : t212 = true
 ·
  subst c4
  rw [if_pos rfl] at H
  obtain rfl := Option.some.inj H
  go_enter Try.func34, Try.ntmps34
  go_wp2_with (first | ((with_reducible refine gate_callee (f := 46) rfl ?_); refine Ga (some 7) Try.func46 #[.int .i64 a0, .int .i64 a1] (h := ?_); (with_reducible refine (impl_isFall.calls a0 a1 true _ A3.out).mono ?_); rintro e w' ⟨rfl, ⟨nd, rfl⟩⟩; refine ⟨_, rfl, ?_⟩))
  go_ret
  exact ⟨by first | rfl | (simp; done) | (simp [*]; done), by repeat (first | exact Drawn0.refl _ | apply Drawn0.step)⟩
 ·
  replace c4 := Bool.eq_false_iff.mpr c4
  subst c4
  rw [if_neg Bool.false_ne_true] at H
  obtain rfl := Option.some.inj H
  go_enter Try.func34, Try.ntmps34
  go_wp2_with (first | ((with_reducible refine gate_callee (f := 46) rfl ?_); refine Ga (some 7) Try.func46 #[.int .i64 a0, .int .i64 a1] (h := ?_); (with_reducible refine (impl_isFall.calls a0 a1 false _ A3.out).mono ?_); rintro e w' ⟨rfl, ⟨nd, rfl⟩⟩; refine ⟨_, rfl, ?_⟩))
  go_ret
  exact ⟨by first | rfl | (simp; done) | (simp [*]; done), by repeat (first | exact Drawn0.refl _ | apply Drawn0.step)⟩

def slices_Index_int_int.l0 : Nat → List Int → Int → Int → Int → Option (Int)
 | 0, _, _, _, _ => none
 | k + 1, x0, x1, x7, x8 => if x8 < x7 then (if 0 ≤ x8 then (if x8 < (x0.length : Int) then (if x1 = (rd x0 x8) then (some x8) else (slices_Index_int_int.l0 k x0 x1 x7 (wrap64 (x8 + 1)))) else (none)) else (none)) else (some (-1))
def slices_Index_int_int.f (k : Nat) (l0 : List Int) (a1 : Int) : Option (Int) := slices_Index_int_int.l0 k l0 a1 (l0.length : Int) 0
theorem slices_Index_int_int.mono_l : ∀ k, (∀ y0 y1 y2 y3, LeO (slices_Index_int_int.l0 k y0 y1 y2 y3) (slices_Index_int_int.l0 (k + 1) y0 y1 y2 y3))
 | 0 => fun _ _ _ _ r h => by simp [slices_Index_int_int.l0] at h
 | k + 1 => by
  have ih0 := slices_Index_int_int.mono_l k
  ·
   intro y0 y1 y2 y3
   unfold slices_Index_int_int.l0
   repeat' first
   | (with_reducible exact ih0 _ _ _ _)
   | (with_reducible exact LeO.refl _)
   | (with_reducible exact LeO.none _)
   | (with_reducible refine LeO.ite ?_ ?_)
   | (with_reducible refine LeO.bind ?_ (fun _ => ?_))
   | exact ih0 _ _ _ _
   | exact LeO.none _
   | refine LeO.ite ?_ ?_
   | refine LeO.bind ?_ (fun _ => ?_)
theorem slices_Index_int_int.mono : ∀ a0 a1 k, LeO (slices_Index_int_int.f k a0 a1) (slices_Index_int_int.f (k + 1) a0 a1) := by
 intro a0 a1 k
 have ih0 := slices_Index_int_int.mono_l k
 unfold slices_Index_int_int.f
 repeat' first
   | (with_reducible exact ih0 _ _ _ _)
   | (with_reducible exact LeO.refl _)
   | (with_reducible exact LeO.none _)
   | (with_reducible refine LeO.ite ?_ ?_)
   | (with_reducible refine LeO.bind ?_ (fun _ => ?_))
   | exact ih0 _ _ _ _
   | exact LeO.none _
   | refine LeO.ite ?_ ?_
   | refine LeO.bind ?_ (fun _ => ?_)
set_option maxHeartbeats 8000000 in
set_option maxRecDepth 100000 in
theorem slices_Index_int_int.calls (k : Nat) (A0 : Option Addr) (c0 : Nat) (l0 : List Int) (a1 : Int) (r : Int) (w : World) (hr0 : Kd.C (Kd.int .i64) w A0 l0.length l0) (hc0 : l0.length ≤ c0) (h : slices_Index_int_int.f k l0 a1 = some r) :
  Calls Try.prog 79 #[.slice A0 l0.length c0, .int .i64 a1] w fun e w' => e = .returned (.int .i64 r) ∧ Drawn0 w w' := by
 have HR0 := Aside0.mk hr0; have HC0 := Aside0.mk hc0; clear hr0 hc0; have H : (slices_Index_int_int.l0 k l0 a1 (l0.length : Int) 0) = some r := h; clear h; have H' := Aside0.mk H; clear H
 go_enter Try.func79, Try.ntmps79
 go_wp2
 go_loopg [8] k (fun kq v8 w' => ∃ (x8_1 : Int), v8 = .int .i64 x8_1 ∧ Aside0 (slices_Index_int_int.l0 kq l0 a1 (l0.length : Int) x8_1 = some r) ∧ Aside0 (kq ≤ k) ∧ Drawn0 w w')
 case atStart => exact ⟨(0), (by first | rfl | (simp; done) | (simp [*]; done)), H', ⟨Nat.le_refl _⟩, by repeat (first | exact Drawn0.refl _ | apply Drawn0.step)⟩
 case round =>
  (clear H'; (try clear p2)); obtain ⟨x8_1, rfl, HA, HK1, ⟨m1, rfl⟩⟩ := hrel
  cases gk with
  | zero => exact absurd HA.out (by simp [slices_Index_int_int.l0])
  | succ k1 =>
   have H := HA.out; clear HA
   simp only [slices_Index_int_int.l0] at H
   by_cases c3 : x8_1 < (l0.length : Int)
   ·
    rw [if_pos c3] at H; have c3b0 : decide (x8_1 < (l0.length : Int)) = true := decide_eq_true c3; clear c3
    by_cases c4 : 0 ≤ x8_1
    ·
     rw [if_pos c4] at H; have c4b0 : decide (0 ≤ x8_1) = true := decide_eq_true c4; clear c4
     by_cases c5 : x8_1 < (l0.length : Int)
     ·
      rw [if_pos c5] at H; have c5b0 : decide (x8_1 < (l0.length : Int)) = true := decide_eq_true c5; clear c5
      by_cases c6 : a1 = (rd l0 x8_1)
      ·
       rw [if_pos c6] at H; have c6b0 : (a1 == (rd l0 x8_1)) = true := beq_iff_eq.mpr c6; have c6b1 : (a1 != (rd l0 x8_1)) = false := bne_eq_false_iff_eq.mpr c6; clear c6; obtain rfl := Option.some.inj H
       have p213 : 0 ≤ (x8_1 : Int) := of_decide_eq_true (by first | (with_reducible assumption) | assumption); have q213 : x8_1 < (l0.length : Int) := of_decide_eq_true (by first | (with_reducible assumption) | assumption)
       obtain ⟨ad213, e213, hx213_0⟩ := Kd.at_int HR0.out x8_1 p213 q213
       cases e213
       replace p213 := eq_true p213
       replace q213 := eq_true q213
       go_wp2
       go_ret
       exact ⟨by first | rfl | (simp; done) | (simp [*]; done), by repeat (first | exact Drawn0.refl _ | apply Drawn0.step)⟩
      ·
       rw [if_neg c6] at H; have c6b0 : (a1 == (rd l0 x8_1)) = false := beq_eq_false_iff_ne.mpr c6; have c6b1 : (a1 != (rd l0 x8_1)) = true := bne_iff_ne.mpr c6; have H' := Aside0.mk H; clear H; have p213 : 0 ≤ (x8_1 : Int) := of_decide_eq_true (by first | (with_reducible assumption) | assumption); have q213 : x8_1 < (l0.length : Int) := of_decide_eq_true (by first | (with_reducible assumption) | assumption); obtain ⟨ad213, e213, hx213_0⟩ := Kd.at_int HR0.out x8_1 p213 q213
       cases e213
       replace p213 := eq_true p213
       replace q213 := eq_true q213
       go_wp2
       go_roundg k1
       case measure => have := HK1.out; omega
       case rel => exact ⟨(wrap64 (x8_1 + 1)), (by first | rfl | (simp; done) | (simp [*]; done)), H', ⟨by have := HK1.out; omega⟩, by repeat (first | exact Drawn0.refl _ | apply Drawn0.step)⟩
     ·
      rw [if_neg c5] at H
      exact absurd H (by simp)
    ·
     rw [if_neg c4] at H
     exact absurd H (by simp)
   ·
    rw [if_neg c3] at H; have c3b0 : decide (x8_1 < (l0.length : Int)) = false := decide_eq_false c3; clear c3; obtain rfl := Option.some.inj H
    go_wp2
    go_ret
    exact ⟨by first | rfl | (simp; done) | (simp [*]; done), by repeat (first | exact Drawn0.refl _ | apply Drawn0.step)⟩

def slices_Contains_int_int.f (k : Nat) (l0 : List Int) (a1 : Int) : Option (Bool) := (slices_Index_int_int.f k l0 a1).bind fun t214 => (some (decide (t214 ≥ 0)))
theorem slices_Contains_int_int.mono : ∀ a0 a1 k, LeO (slices_Contains_int_int.f k a0 a1) (slices_Contains_int_int.f (k + 1) a0 a1) := by
 intro a0 a1 k
 unfold slices_Contains_int_int.f
 repeat' first
   | (with_reducible exact slices_Index_int_int.mono _ _ _)
   | (with_reducible exact LeO.refl _)
   | (with_reducible exact LeO.none _)
   | (with_reducible refine LeO.ite ?_ ?_)
   | (with_reducible refine LeO.bind ?_ (fun _ => ?_))
   | exact slices_Index_int_int.mono _ _ _
   | exact LeO.none _
   | refine LeO.ite ?_ ?_
   | refine LeO.bind ?_ (fun _ => ?_)
set_option maxHeartbeats 8000000 in
set_option maxRecDepth 100000 in
theorem slices_Contains_int_int.calls (k : Nat) (A0 : Option Addr) (c0 : Nat) (l0 : List Int) (a1 : Int) (r : Bool) (w : World) (hr0 : Kd.C (Kd.int .i64) w A0 l0.length l0) (hc0 : l0.length ≤ c0) (h : slices_Contains_int_int.f k l0 a1 = some r) :
  Calls Try.prog 64 #[.slice A0 l0.length c0, .int .i64 a1] w fun e w' => e = .returned (.bool r) ∧ Drawn0 w w' := by
 (have HR0 := Aside0.mk hr0; have HC0 := Aside0.mk hc0; clear hr0 hc0; have H : ((slices_Index_int_int.f k l0 a1).bind fun t214 => (some (decide (t214 ≥ 0)))) = some r := h; clear h); replace H := Option.bind_eq_some_iff.mp H; obtain ⟨t214, A30, H⟩ := H; (try dsimp only at H); have A3 := Aside0.mk A30; clear A30; obtain rfl := Option.some.inj H
 go_enter Try.func64, Try.ntmps64
 go_wp2_with (first | ((with_reducible refine gate_callee (f := 79) rfl ?_); refine Ga (some 7) Try.func79 #[.slice A0 l0.length c0, .int .i64 a1] (h := ?_); (with_reducible refine (slices_Index_int_int.calls k _ _ l0 a1 t214 _ ?side1 ?side2 A3.out).mono ?_); (case side1 => repeat (first | exact HR0.out | (with_reducible refine Kd.C_alloc ?_ _) | (with_reducible refine Kd.C_drewN ?_ _) | (with_reducible refine Kd.C_drew ?_))); (case side2 => exact HC0.out); rintro e w' ⟨rfl, ⟨nd, rfl⟩⟩; refine ⟨_, rfl, ?_⟩))
 go_ret
 exact ⟨by first | rfl | (simp; done) | (simp [*]; done), by repeat (first | exact Drawn0.refl _ | apply Drawn0.step)⟩

def impl_isOrder.l0 : Nat → List Int → List Int → Int → Int → Option (Bool)
 | 0, _, _, _, _ => none
 | k + 1, x0, x9, x10, x11 => if x11 < x10 then (if 0 ≤ x11 then (if x11 < (x9.length : Int) then ((impl_between.f (rd x9 x11) 0 (wrap64 ((x0.length : Int) - 1))).bind fun t217 => (if t217 = true then (if x11 ≤ (x0.length : Int) then ((slices_Contains_int_int.f k (x0.take (x11 : Int).toNat) (rd x9 x11)).bind fun t219 => (if t219 = true then (some false) else (impl_isOrder.l0 k x0 x9 x10 (wrap64 (x11 + 1))))) else (none)) else (some false))) else (none)) else (none)) else (some true)
def impl_isOrder.f (k : Nat) (l0 : List Int) : Option (Bool) := (impl_between.f (l0.length : Int) 1 8).bind fun t215 => (if t215 = true then (impl_isOrder.l0 k l0 l0 (l0.length : Int) 0) else (some false))
theorem impl_isOrder.mono_l : ∀ k, (∀ y0 y1 y2 y3, LeO (impl_isOrder.l0 k y0 y1 y2 y3) (impl_isOrder.l0 (k + 1) y0 y1 y2 y3))
 | 0 => fun _ _ _ _ r h => by simp [impl_isOrder.l0] at h
 | k + 1 => by
  have ih0 := impl_isOrder.mono_l k
  ·
   intro y0 y1 y2 y3
   unfold impl_isOrder.l0
   repeat' first
   | (with_reducible exact ih0 _ _ _ _)
   | (with_reducible exact slices_Contains_int_int.mono _ _ _)
   | (with_reducible exact LeO.refl _)
   | (with_reducible exact LeO.none _)
   | (with_reducible refine LeO.ite ?_ ?_)
   | (with_reducible refine LeO.bind ?_ (fun _ => ?_))
   | exact ih0 _ _ _ _
   | exact slices_Contains_int_int.mono _ _ _
   | exact LeO.none _
   | refine LeO.ite ?_ ?_
   | refine LeO.bind ?_ (fun _ => ?_)
theorem impl_isOrder.mono : ∀ a0 k, LeO (impl_isOrder.f k a0) (impl_isOrder.f (k + 1) a0) := by
 intro a0 k
 have ih0 := impl_isOrder.mono_l k
 unfold impl_isOrder.f
 repeat' first
   | (with_reducible exact ih0 _ _ _ _)
   | (with_reducible exact slices_Contains_int_int.mono _ _ _)
   | (with_reducible exact LeO.refl _)
   | (with_reducible exact LeO.none _)
   | (with_reducible refine LeO.ite ?_ ?_)
   | (with_reducible refine LeO.bind ?_ (fun _ => ?_))
   | exact ih0 _ _ _ _
   | exact slices_Contains_int_int.mono _ _ _
   | exact LeO.none _
   | refine LeO.ite ?_ ?_
   | refine LeO.bind ?_ (fun _ => ?_)
theorem impl_isOrder.slice_len {P : Program} {f : Nat} {A : Option Addr} {n m c : Nat} {x : Value} {w : World} {Q : Ending → World → Prop} (h : n = m) (H : Calls P f #[.slice A n c, x] w Q) : Calls P f #[.slice A m c, x] w Q := h ▸ H
set_option maxHeartbeats 8000000 in
set_option maxRecDepth 100000 in
theorem impl_isOrder.calls (k : Nat) (A0 : Option Addr) (c0 : Nat) (l0 : List Int) (r : Bool) (w : World) (hr0 : Kd.C (Kd.int .i64) w A0 l0.length l0) (hc0 : l0.length ≤ c0) (h : impl_isOrder.f k l0 = some r) :
  Calls Try.prog 35 #[.slice A0 l0.length c0] w fun e w' => e = .returned (.bool r) ∧ Drawn0 w w' := by
 (have HR0 := Aside0.mk hr0; have HC0 := Aside0.mk hc0; clear hr0 hc0; have H : ((impl_between.f (l0.length : Int) 1 8).bind fun t215 => (if t215 = true then (impl_isOrder.l0 k l0 l0 (l0.length : Int) 0) else (some false))) = some r := h; clear h); replace H := Option.bind_eq_some_iff.mp H; obtain ⟨t215, A20, H⟩ := H; (try dsimp only at H); have A2 := Aside0.mk A20; clear A20
 by_cases c3 : t215 = true
 ·
  subst c3
  rw [if_pos rfl] at H
  have H' := Aside0.mk H; clear H
  go_enter Try.func35, Try.ntmps35
  go_wp2_with (first | ((with_reducible refine gate_callee (f := 58) rfl ?_); refine Ga (some 7) Try.func58 #[.int .i64 (l0.length : Int), .int .i64 1, .int .i64 8] (h := ?_); (with_reducible refine (impl_between.calls (l0.length : Int) 1 8 true _ A2.out).mono ?_); rintro e w' ⟨rfl, ⟨nd, rfl⟩⟩; refine ⟨_, rfl, ?_⟩))
  go_loopg [11] k (fun kq v11 w' => ∃ (x11_1 : Int), v11 = .int .i64 x11_1 ∧ Aside0 (impl_isOrder.l0 kq l0 l0 (l0.length : Int) x11_1 = some r) ∧ Aside0 (kq ≤ k) ∧ Drawn0 w w')
  case atStart => exact ⟨(0), (by first | rfl | (simp; done) | (simp [*]; done)), H', ⟨Nat.le_refl _⟩, by repeat (first | exact Drawn0.refl _ | apply Drawn0.step)⟩
  case round =>
   (clear H'; (try clear p2); (try clear c3)); obtain ⟨x11_1, rfl, HA, HK1, ⟨m1, rfl⟩⟩ := hrel
   cases gk with
   | zero => exact absurd HA.out (by simp [impl_isOrder.l0])
   | succ k1 =>
    have H := HA.out; clear HA
    simp only [impl_isOrder.l0] at H
    by_cases c4 : x11_1 < (l0.length : Int)
    ·
     rw [if_pos c4] at H; have c4b0 : decide (x11_1 < (l0.length : Int)) = true := decide_eq_true c4; clear c4
     by_cases c5 : 0 ≤ x11_1
     ·
      rw [if_pos c5] at H; have c5b0 : decide (0 ≤ x11_1) = true := decide_eq_true c5; clear c5
      by_cases c6 : x11_1 < (l0.length : Int)
      ·
       rw [if_pos c6] at H; have c6b0 : decide (x11_1 < (l0.length : Int)) = true := decide_eq_true c6; clear c6; replace H := Option.bind_eq_some_iff.mp H; obtain ⟨t217, A70, H⟩ := H; (try dsimp only at H); have A7 := Aside0.mk A70; clear A70
       by_cases c8 : t217 = true
       ·
        subst c8
        rw [if_pos rfl] at H
        have c9b0 := eq_true (of_decide_eq_true (by first | (with_reducible assumption) | assumption) : 0 ≤ x11_1)
        by_cases c10 : x11_1 ≤ (l0.length : Int)
        ·
         rw [if_pos c10] at H; have c10b0 := eq_true c10; have c10b1 : decide (x11_1 ≤ (l0.length : Int)) = true := decide_eq_true c10; clear c10; replace H := Option.bind_eq_some_iff.mp H; obtain ⟨t219, A110, H⟩ := H; (try dsimp only at H); have A11 := Aside0.mk A110; clear A110
         by_cases c12 : t219 = true
         ·
          subst c12
          rw [if_pos rfl] at H
          obtain rfl := Option.some.inj H
          have p216 : 0 ≤ (x11_1 : Int) := of_decide_eq_true (by first | (with_reducible assumption) | assumption); have q216 : x11_1 < (l0.length : Int) := of_decide_eq_true (by first | (with_reducible assumption) | assumption)
          obtain ⟨ad216, e216, hx216_0⟩ := Kd.at_int HR0.out x11_1 p216 q216
          cases e216
          replace p216 := eq_true p216
          replace q216 := eq_true q216
          go_wp2_with (first | ((with_reducible refine gate_callee (f := 58) rfl ?_); refine Ga (some 20) Try.func58 #[.int .i64 (rd l0 x11_1), .int .i64 0, .int .i64 (wrap64 ((l0.length : Int) - 1))] (h := ?_); (with_reducible refine (impl_between.calls (rd l0 x11_1) 0 (wrap64 ((l0.length : Int) - 1)) true _ A7.out).mono ?_); rintro e w' ⟨rfl, ⟨nd, rfl⟩⟩; refine ⟨_, rfl, ?_⟩; obtain ⟨i013, hi013, _, hsz13, _⟩ := info_parts info3; obtain ⟨hcut13, hA13, hC13⟩ := print_take_of (P := Try.prog) (Value.int .i64) 0 24 3 .i64 Try.underlying24 hi013 hsz13 (some ad216) c0 l0 x11_1 (of_decide_eq_true (by first | (with_reducible assumption) | assumption)) (of_decide_eq_true (by first | (with_reducible assumption) | assumption)) HC0.out; have HR218 := Zm (Kd.C_of_reads (h1 := fun _ => rfl) (hA13 _ (Kd.reads_of_C HR0.out))); have HC218 := Aside0.mk hC13; clear hA13 hC13 hi013 hsz13) | (go_at_call 64; (with_reducible refine (impl_isOrder.slice_len (n := (l0.take (x11_1 : Int).toNat).length) ?sideN (slices_Contains_int_int.calls k1 _ _ (l0.take (x11_1 : Int).toNat) (rd l0 x11_1) true _ ?side1 ?side2 A11.out)).mono ?_); (case sideN => have hq_ := of_eq_true q216; rw [List.length_take]; omega); (case side1 => repeat (first | exact HR218.out | (with_reducible refine Kd.C_alloc ?_ _) | (with_reducible refine Kd.C_drewN ?_ _) | (with_reducible refine Kd.C_drew ?_))); (case side2 => exact HC218.out); rintro e w' ⟨rfl, ⟨nd, rfl⟩⟩))
          go_ret
          exact ⟨by first | rfl | (simp; done) | (simp [*]; done), by repeat (first | exact Drawn0.refl _ | apply Drawn0.step)⟩
         ·
          replace c12 := Bool.eq_false_iff.mpr c12
          subst c12
          rw [if_neg Bool.false_ne_true] at H
          have H' := Aside0.mk H; clear H; have p216 : 0 ≤ (x11_1 : Int) := of_decide_eq_true (by first | (with_reducible assumption) | assumption); have q216 : x11_1 < (l0.length : Int) := of_decide_eq_true (by first | (with_reducible assumption) | assumption); obtain ⟨ad216, e216, hx216_0⟩ := Kd.at_int HR0.out x11_1 p216 q216
          cases e216
          replace p216 := eq_true p216
          replace q216 := eq_true q216
          go_wp2_with (first | ((with_reducible refine gate_callee (f := 58) rfl ?_); refine Ga (some 20) Try.func58 #[.int .i64 (rd l0 x11_1), .int .i64 0, .int .i64 (wrap64 ((l0.length : Int) - 1))] (h := ?_); (with_reducible refine (impl_between.calls (rd l0 x11_1) 0 (wrap64 ((l0.length : Int) - 1)) true _ A7.out).mono ?_); rintro e w' ⟨rfl, ⟨nd, rfl⟩⟩; refine ⟨_, rfl, ?_⟩; obtain ⟨i014, hi014, _, hsz14, _⟩ := info_parts info3; obtain ⟨hcut14, hA14, hC14⟩ := print_take_of (P := Try.prog) (Value.int .i64) 0 24 3 .i64 Try.underlying24 hi014 hsz14 (some ad216) c0 l0 x11_1 (of_decide_eq_true (by first | (with_reducible assumption) | assumption)) (of_decide_eq_true (by first | (with_reducible assumption) | assumption)) HC0.out; have HR218 := Zm (Kd.C_of_reads (h1 := fun _ => rfl) (hA14 _ (Kd.reads_of_C HR0.out))); have HC218 := Aside0.mk hC14; clear hA14 hC14 hi014 hsz14) | (go_at_call 64; (with_reducible refine (impl_isOrder.slice_len (n := (l0.take (x11_1 : Int).toNat).length) ?sideN (slices_Contains_int_int.calls k1 _ _ (l0.take (x11_1 : Int).toNat) (rd l0 x11_1) false _ ?side1 ?side2 A11.out)).mono ?_); (case sideN => have hq_ := of_eq_true q216; rw [List.length_take]; omega); (case side1 => repeat (first | exact HR218.out | (with_reducible refine Kd.C_alloc ?_ _) | (with_reducible refine Kd.C_drewN ?_ _) | (with_reducible refine Kd.C_drew ?_))); (case side2 => exact HC218.out); rintro e w' ⟨rfl, ⟨nd, rfl⟩⟩))
          go_roundg k1
          case measure => have := HK1.out; omega
          case rel => exact ⟨(wrap64 (x11_1 + 1)), (by first | rfl | (simp; done) | (simp [*]; done)), H', ⟨by have := HK1.out; omega⟩, by repeat (first | exact Drawn0.refl _ | apply Drawn0.step)⟩
        ·
         rw [if_neg c10] at H
         exact absurd H (by simp)
       ·
        replace c8 := Bool.eq_false_iff.mpr c8
        subst c8
        rw [if_neg Bool.false_ne_true] at H
        obtain rfl := Option.some.inj H
        have p216 : 0 ≤ (x11_1 : Int) := of_decide_eq_true (by first | (with_reducible assumption) | assumption); have q216 : x11_1 < (l0.length : Int) := of_decide_eq_true (by first | (with_reducible assumption) | assumption)
        obtain ⟨ad216, e216, hx216_0⟩ := Kd.at_int HR0.out x11_1 p216 q216
        cases e216
        replace p216 := eq_true p216
        replace q216 := eq_true q216
        go_wp2_with (first | ((with_reducible refine gate_callee (f := 58) rfl ?_); refine Ga (some 20) Try.func58 #[.int .i64 (rd l0 x11_1), .int .i64 0, .int .i64 (wrap64 ((l0.length : Int) - 1))] (h := ?_); (with_reducible refine (impl_between.calls (rd l0 x11_1) 0 (wrap64 ((l0.length : Int) - 1)) false _ A7.out).mono ?_); rintro e w' ⟨rfl, ⟨nd, rfl⟩⟩; refine ⟨_, rfl, ?_⟩))
        go_ret
        exact ⟨by first | rfl | (simp; done) | (simp [*]; done), by repeat (first | exact Drawn0.refl _ | apply Drawn0.step)⟩
      ·
       rw [if_neg c6] at H
       exact absurd H (by simp)
     ·
      rw [if_neg c5] at H
      exact absurd H (by simp)
    ·
     rw [if_neg c4] at H; have c4b0 : decide (x11_1 < (l0.length : Int)) = false := decide_eq_false c4; clear c4; obtain rfl := Option.some.inj H
     go_wp2
     go_ret
     exact ⟨by first | rfl | (simp; done) | (simp [*]; done), by repeat (first | exact Drawn0.refl _ | apply Drawn0.step)⟩
 ·
  replace c3 := Bool.eq_false_iff.mpr c3
  subst c3
  rw [if_neg Bool.false_ne_true] at H
  obtain rfl := Option.some.inj H
  go_enter Try.func35, Try.ntmps35
  go_wp2_with (first | ((with_reducible refine gate_callee (f := 58) rfl ?_); refine Ga (some 7) Try.func58 #[.int .i64 (l0.length : Int), .int .i64 1, .int .i64 8] (h := ?_); (with_reducible refine (impl_between.calls (l0.length : Int) 1 8 false _ A2.out).mono ?_); rintro e w' ⟨rfl, ⟨nd, rfl⟩⟩; refine ⟨_, rfl, ?_⟩))
  go_ret
  exact ⟨by first | rfl | (simp; done) | (simp [*]; done), by repeat (first | exact Drawn0.refl _ | apply Drawn0.step)⟩

def impl_orderKey.l0 : Nat → List Int → List Int → Int → Int → Option (ByteArray)
 | 0, _, _, _, _ => none
 | k + 1, x3, x7, x8, x9 => if x9 < x8 then (if 0 ≤ x9 then (if x9 < (x7.length : Int) then (if x3.length < 140737488355328 then (impl_orderKey.l0 k (x3 ++ [(wrap64 (48 + (rd x7 x9))) % 256]) x7 x8 (wrap64 (x9 + 1))) else (none)) else (none)) else (none)) else (some (strOfNums x3))
def impl_orderKey.f (k : Nat) (l0 : List Int) : Option (ByteArray) := impl_orderKey.l0 k (([] : List Int)) l0 (l0.length : Int) 0
theorem impl_orderKey.mono_l : ∀ k, (∀ y0 y1 y2 y3, LeO (impl_orderKey.l0 k y0 y1 y2 y3) (impl_orderKey.l0 (k + 1) y0 y1 y2 y3))
 | 0 => fun _ _ _ _ r h => by simp [impl_orderKey.l0] at h
 | k + 1 => by
  have ih0 := impl_orderKey.mono_l k
  ·
   intro y0 y1 y2 y3
   unfold impl_orderKey.l0
   repeat' first
   | (with_reducible exact ih0 _ _ _ _)
   | (with_reducible exact LeO.refl _)
   | (with_reducible exact LeO.none _)
   | (with_reducible refine LeO.ite ?_ ?_)
   | (with_reducible refine LeO.bind ?_ (fun _ => ?_))
   | exact ih0 _ _ _ _
   | exact LeO.none _
   | refine LeO.ite ?_ ?_
   | refine LeO.bind ?_ (fun _ => ?_)
theorem impl_orderKey.mono : ∀ a0 k, LeO (impl_orderKey.f k a0) (impl_orderKey.f (k + 1) a0) := by
 intro a0 k
 have ih0 := impl_orderKey.mono_l k
 unfold impl_orderKey.f
 repeat' first
   | (with_reducible exact ih0 _ _ _ _)
   | (with_reducible exact LeO.refl _)
   | (with_reducible exact LeO.none _)
   | (with_reducible refine LeO.ite ?_ ?_)
   | (with_reducible refine LeO.bind ?_ (fun _ => ?_))
   | exact ih0 _ _ _ _
   | exact LeO.none _
   | refine LeO.ite ?_ ?_
   | refine LeO.bind ?_ (fun _ => ?_)
set_option maxHeartbeats 8000000 in
set_option maxRecDepth 100000 in
theorem impl_orderKey.calls (k : Nat) (A0 : Option Addr) (c0 : Nat) (l0 : List Int) (r : ByteArray) (w : World) (hr0 : Kd.C (Kd.int .i64) w A0 l0.length l0) (hc0 : l0.length ≤ c0) (h : impl_orderKey.f k l0 = some r) :
  Calls Try.prog 37 #[.slice A0 l0.length c0] w fun e w' => e = .returned (.string r) ∧ Below w.heap.size w w' := by
 have HR0 := Aside0.mk hr0; have HC0 := Aside0.mk hc0; clear hr0 hc0; have HB := Zm (Below.refl w.heap.size w); have H : (impl_orderKey.l0 k (([] : List Int)) l0 (l0.length : Int) 0) = some r := h; clear h; obtain ⟨y220, hy220⟩ : ∃ y_ : List Int, y_ = (([] : List Int)) := ⟨_, rfl⟩; (replace H : (impl_orderKey.l0 k y220 l0 (l0.length : Int) 0) = some r := by first | (rw [hy220]; with_reducible exact H) | (have H2_ := (Option.bind_some _ _).symm.trans H; rw [hy220]; with_reducible exact H2_) | (have H2_ := (Option.bind_some _ _).symm.trans H; with_reducible exact H2_) | with_reducible exact H | (rw [hy220]; exact H) | exact H)
 have Ny220 := Aside0.mk hy220; clear hy220; have H' := Aside0.mk H; clear H
 go_enter Try.func37, Try.ntmps37
 go_wp2_with (first | ((with_reducible refine gate_dst (N := 6) rfl ?_); refine Kd.R_lit (Kd.int .u8) _ 5 ?hg (N := 6) ?hd (xs := ([] : List Int)) (inner := []) (ok := fun _ => True) (okp := fun _ => True) ?hr ?hp (fun _ hk => hk) trivial (Below.refl _ _) (Nat.le_refl _) (by simp) ?_; (case hd => rfl); (case hg => rfl); (case hr => first | (go_simp; done) | (go_simp; rfl)); (case hp => exact (Reps.none _ _)); intro v221 w2 ho3 hb hg_ hnew_; clear hg_ hnew_; (first | rw [← Ny220.out] at ho3 | (simp only [Int.reduceToNat] at ho3; rw [← Ny220.out] at ho3)); have HO222 := Zj ho3 HB; replace HB := Zh HB hb; clear hb ho3))
 go_loopg [3, 9] k (fun kq v3 v9 w' => ∃ (x3_1 : List Int) (x9_1 : Int), v9 = .int .i64 x9_1 ∧ Aside0 (impl_orderKey.l0 kq x3_1 l0 (l0.length : Int) x9_1 = some r) ∧ Aside0 (kq ≤ k) ∧ Aside0 (Kd.R (Kd.int .u8) 5 w' w.heap.size (fun _ => True) v3 x3_1) ∧ Aside0 (Below w.heap.size w w'))
 case atStart => exact ⟨(y220), (0), (by first | rfl | (simp; done) | (simp [*]; done)), H', ⟨Nat.le_refl _⟩, ⟨Zr HO222⟩, ⟨Zl HB⟩⟩
 case round =>
  (clear H'; (try clear p2); (try clear c3)); obtain ⟨x3_1, x9_1, rfl, HA, HK1, HO_3, HB⟩ := hrel
  cases gk with
  | zero => exact absurd HA.out (by simp [impl_orderKey.l0])
  | succ k1 =>
   have H := HA.out; clear HA
   simp only [impl_orderKey.l0] at H
   by_cases c4 : x9_1 < (l0.length : Int)
   ·
    rw [if_pos c4] at H; have c4b0 : decide (x9_1 < (l0.length : Int)) = true := decide_eq_true c4; clear c4
    by_cases c5 : 0 ≤ x9_1
    ·
     rw [if_pos c5] at H; have c5b0 : decide (0 ≤ x9_1) = true := decide_eq_true c5; clear c5
     by_cases c6 : x9_1 < (l0.length : Int)
     ·
      rw [if_pos c6] at H; have c6b0 : decide (x9_1 < (l0.length : Int)) = true := decide_eq_true c6; clear c6
      by_cases c7 : x3_1.length < 140737488355328
      ·
       rw [if_pos c7] at H
       have LMc7 := Aside0.mk c7; clear c7
       obtain ⟨y224, hy224⟩ : ∃ y_ : List Int, y_ = (x3_1 ++ [(wrap64 (48 + (rd l0 x9_1))) % 256]) := ⟨_, rfl⟩; (replace H : (impl_orderKey.l0 k1 y224 l0 (l0.length : Int) (wrap64 (x9_1 + 1))) = some r := by first | (rw [hy224]; with_reducible exact H) | (have H2_ := (Option.bind_some _ _).symm.trans H; rw [hy224]; with_reducible exact H2_) | (have H2_ := (Option.bind_some _ _).symm.trans H; with_reducible exact H2_) | with_reducible exact H | (rw [hy224]; exact H) | exact H)
       have Ny224 := Aside0.mk hy224; clear hy224; have H' := Aside0.mk H; clear H; have p223 : 0 ≤ (x9_1 : Int) := of_decide_eq_true (by first | (with_reducible assumption) | assumption); have q223 : x9_1 < (l0.length : Int) := of_decide_eq_true (by first | (with_reducible assumption) | assumption)
       obtain ⟨ad223, e223, hx223_0⟩ := Kd.at_int HR0.out x9_1 p223 q223
       cases e223
       replace hx223_0 := (HB.out.cell (World.block_lt_of_cell? w _ hx223_0)).trans hx223_0
       replace p223 := eq_true p223
       replace q223 := eq_true q223
       go_wp2_with (first | ((with_reducible refine gate_builtin (b := .append) (xs := #[.tmp 13, .tmp 17]) rfl ?_); at_builtin; refine Kd.R_append (Kd.int .u8) (w0 := w) w.heap.size rfl (.tmp 13) (.tmp 17) 22 5 (.int .u8 0) 1 rfl Try.underlying22 info5 rfl (by decide) (by omega) u3 x3_1 ((wrap64 (48 + (rd l0 x9_1))) % 256) [.int .u8 ((wrap64 (48 + (rd l0 x9_1))) % 256)] (fun _ => True) (fun _ => False) rfl rfl ?aP (fun _ hk => hk.elim) ?aF ?aO ?aB ?aS ?aL ?_; (case aP => exact rfl); (case aB => exact (Zl HB)); (case aF => exact (fun _ _ => trivial)); (case aO => exact (Zr HO_3)); (case aS => exact (below_size (Zl HB))); (case aL => have := LMc7.out; omega); intro v225 w8 ho hb hg hat; rw [← Ny224.out] at ho; replace HB := Zm (hb); have HO226 := Zm (ho); clear HO_3 ho hb hg hat))
       go_roundg k1
       case measure => have := HK1.out; omega
       case rel => exact ⟨(y224), (wrap64 (x9_1 + 1)), (by first | rfl | (simp; done) | (simp [*]; done)), H', ⟨by have := HK1.out; omega⟩, ⟨Zr HO226⟩, ⟨Zl HB⟩⟩
      ·
       rw [if_neg c7] at H
       exact absurd H (by simp)
     ·
      rw [if_neg c6] at H
      exact absurd H (by simp)
    ·
     rw [if_neg c5] at H
     exact absurd H (by simp)
   ·
    rw [if_neg c4] at H; have c4b0 : decide (x9_1 < (l0.length : Int)) = false := decide_eq_false c4; clear c4; obtain rfl := Option.some.inj H
    have hcv9 := own_string (P := Try.prog) Try.underlying22 Try.underlying5 Try.underlying9 (Kd.own_of_R HO_3.out)
    go_wp2
    go_ret
    exact ⟨by first | rfl | (simp [errW_none, errW_some] <;> rfl) | (simp [*, errW_none, errW_some] <;> rfl), Zl HB⟩

def impl_identity.l0 : Nat → List Int → Int → Int → Option (List Int)
 | 0, _, _, _ => none
 | k + 1, x3, x6, x7 => if x7 < x6 then (if x3.length < 17592186044416 then (impl_identity.l0 k (x3 ++ [x7]) x6 (wrap64 (x7 + 1))) else (none)) else (some x3)
def impl_identity.f (k : Nat) (a0 : Int) : Option (List Int) := impl_identity.l0 k (([] : List Int)) a0 0
theorem impl_identity.mono_l : ∀ k, (∀ y0 y1 y2, LeO (impl_identity.l0 k y0 y1 y2) (impl_identity.l0 (k + 1) y0 y1 y2))
 | 0 => fun _ _ _ r h => by simp [impl_identity.l0] at h
 | k + 1 => by
  have ih0 := impl_identity.mono_l k
  ·
   intro y0 y1 y2
   unfold impl_identity.l0
   repeat' first
   | (with_reducible exact ih0 _ _ _)
   | (with_reducible exact LeO.refl _)
   | (with_reducible exact LeO.none _)
   | (with_reducible refine LeO.ite ?_ ?_)
   | (with_reducible refine LeO.bind ?_ (fun _ => ?_))
   | exact ih0 _ _ _
   | exact LeO.none _
   | refine LeO.ite ?_ ?_
   | refine LeO.bind ?_ (fun _ => ?_)
theorem impl_identity.mono : ∀ a0 k, LeO (impl_identity.f k a0) (impl_identity.f (k + 1) a0) := by
 intro a0 k
 have ih0 := impl_identity.mono_l k
 unfold impl_identity.f
 repeat' first
   | (with_reducible exact ih0 _ _ _)
   | (with_reducible exact LeO.refl _)
   | (with_reducible exact LeO.none _)
   | (with_reducible refine LeO.ite ?_ ?_)
   | (with_reducible refine LeO.bind ?_ (fun _ => ?_))
   | exact ih0 _ _ _
   | exact LeO.none _
   | refine LeO.ite ?_ ?_
   | refine LeO.bind ?_ (fun _ => ?_)
set_option maxHeartbeats 8000000 in
set_option maxRecDepth 100000 in
theorem impl_identity.calls (k : Nat) (a0 : Int) (r : List Int) (w : World) (h : impl_identity.f k a0 = some r) :
  Calls Try.prog 65 #[.int .i64 a0] w fun e w' => ∃ v0_ : Value, e = .returned (v0_) ∧ Kd.R (Kd.int .i64) 3 w' w.heap.size (fun _ => True) v0_ r ∧ Below w.heap.size w w' := by
 have HB := Aside0.mk (Below.refl w.heap.size w)
 have H : (impl_identity.l0 k (([] : List Int)) a0 0) = some r := h
 clear h
 obtain ⟨y227, hy227⟩ : ∃ y_ : List Int, y_ = (([] : List Int)) := ⟨_, rfl⟩
 replace H : (impl_identity.l0 k y227 a0 0) = some r := by first | (rw [hy227]; with_reducible exact H) | (have H2_ := (Option.bind_some _ _).symm.trans H; rw [hy227]; with_reducible exact H2_) | (have H2_ := (Option.bind_some _ _).symm.trans H; with_reducible exact H2_) | with_reducible exact H | (rw [hy227]; exact H) | exact H
 have Ny227 := Aside0.mk hy227
 clear hy227
 have H' := Aside0.mk H
 clear H
 go_enter Try.func65, Try.ntmps65
 go_wp2_with (first | ((with_reducible refine gate_dst (N := 5) rfl ?_); refine Kd.R_lit (Kd.int .i64) _ 3 ?hg (N := 5) ?hd (xs := ([] : List Int)) (inner := []) (ok := fun _ => True) (okp := fun _ => True) ?hr ?hp (fun _ hk => hk) trivial (Below.refl _ _) (Nat.le_refl _) (by simp) ?_; (case hd => rfl); (case hg => rfl); (case hr => first | (go_simp; done) | (go_simp; rfl)); (case hp => exact (Reps.none _ _)); intro v228 w2 ho3 hb hg_ hnew_; clear hg_ hnew_; (first | rw [← Ny227.out] at ho3 | (simp only [Int.reduceToNat] at ho3; rw [← Ny227.out] at ho3)); have n0_ := Aside0.mk (Kd.R_lower ho3 (below_size (by repeat (first | (with_reducible first | exact HB.out | apply below_alloc | apply pw_below_drewN | apply below_drew1) | exact HB.out)))); have n1_ := Aside0.mk (below_step (by repeat (first | (with_reducible first | exact HB.out | apply below_alloc | apply pw_below_drewN | apply below_drew1) | exact HB.out)) hb); clear HB; have HO229 := n0_; have HB := n1_; clear n0_ n1_; clear hb ho3))
 go_loopg [3, 7] k (fun kq v3 v7 w' => ∃ (x3_1 : List Int) (x7_1 : Int), v7 = .int .i64 x7_1 ∧ Aside0 (impl_identity.l0 kq x3_1 a0 x7_1 = some r) ∧ Aside0 (kq ≤ k) ∧ Aside0 (Kd.R (Kd.int .i64) 3 w' w.heap.size (fun _ => True) v3 x3_1) ∧ Aside0 (Below w.heap.size w w'))
 case atStart => exact ⟨(y227), (0), (by first | rfl | (simp; done) | (simp [*]; done)), H', ⟨Nat.le_refl _⟩, ⟨by (with_reducible repeat (first | apply Kd.R_alloc | apply Kd.R_drewN | apply Kd.R_drew)); exact HO229.out⟩, ⟨by repeat (first | (with_reducible first | exact HB.out | apply below_alloc | apply pw_below_drewN | apply below_drew1) | exact HB.out)⟩⟩
 case round =>
  clear H'
  try clear p2
  obtain ⟨x3_1, x7_1, rfl, HA, HK1, HO_3, HB⟩ := hrel
  cases gk with
  | zero => exact absurd HA.out (by simp [impl_identity.l0])
  | succ k1 =>
   have H := HA.out
   clear HA
   simp only [impl_identity.l0] at H
   by_cases c4 : x7_1 < a0
   ·
    rw [if_pos c4] at H
    have c4b0 : decide (x7_1 < a0) = true := decide_eq_true c4
    clear c4
    by_cases c5 : x3_1.length < 17592186044416
    ·
     rw [if_pos c5] at H
     have LMc5 := Aside0.mk c5
     clear c5
     obtain ⟨y230, hy230⟩ : ∃ y_ : List Int, y_ = (x3_1 ++ [x7_1]) := ⟨_, rfl⟩
     replace H : (impl_identity.l0 k1 y230 a0 (wrap64 (x7_1 + 1))) = some r := by first | (rw [hy230]; with_reducible exact H) | (have H2_ := (Option.bind_some _ _).symm.trans H; rw [hy230]; with_reducible exact H2_) | (have H2_ := (Option.bind_some _ _).symm.trans H; with_reducible exact H2_) | with_reducible exact H | (rw [hy230]; exact H) | exact H
     have Ny230 := Aside0.mk hy230
     clear hy230
     have H' := Aside0.mk H
     clear H
     go_wp2_with (first | ((with_reducible refine gate_builtin (b := .append) (xs := #[.tmp 10, .tmp 12]) rfl ?_); at_builtin; refine Kd.R_append (Kd.int .i64) (w0 := w) w.heap.size rfl (.tmp 10) (.tmp 12) 24 3 (.int .i64 0) 8 rfl Try.underlying24 info3 rfl (by decide) (by omega) u3 x3_1 x7_1 [.int .i64 x7_1] (fun _ => True) (fun _ => False) rfl rfl ?aP (fun _ hk => hk.elim) ?aF ?aO ?aB ?aS ?aL ?_; (case aP => exact rfl); (case aB => exact (by repeat (first | (with_reducible first | exact HB.out | apply below_alloc | apply pw_below_drewN | apply below_drew1) | exact HB.out))); (case aF => exact (fun _ _ => trivial)); (case aO => exact (by (with_reducible repeat (first | apply Kd.R_alloc | apply Kd.R_drewN | apply Kd.R_drew)); exact HO_3.out)); (case aS => exact (below_size (by repeat (first | (with_reducible first | exact HB.out | apply below_alloc | apply pw_below_drewN | apply below_drew1) | exact HB.out)))); (case aL => have := LMc5.out; omega); intro v231 w6 ho hb hg hat; rw [← Ny230.out] at ho; have n0_ := Aside0.mk (hb); have n1_ := Aside0.mk (ho); clear HB; clear HO_3; have HB := n0_; have HO232 := n1_; clear n0_ n1_; clear ho hb hg hat))
     go_roundg k1
     case measure => have := HK1.out; omega
     case rel => exact ⟨(y230), (wrap64 (x7_1 + 1)), (by first | rfl | (simp; done) | (simp [*]; done)), H', ⟨by have := HK1.out; omega⟩, ⟨by (with_reducible repeat (first | apply Kd.R_alloc | apply Kd.R_drewN | apply Kd.R_drew)); exact HO232.out⟩, ⟨by repeat (first | (with_reducible first | exact HB.out | apply below_alloc | apply pw_below_drewN | apply below_drew1) | exact HB.out)⟩⟩
    ·
     rw [if_neg c5] at H
     exact absurd H (by simp)
   ·
    rw [if_neg c4] at H
    have c4b0 : decide (x7_1 < a0) = false := decide_eq_false c4
    clear c4
    obtain rfl := Option.some.inj H
    go_wp2
    go_ret
    exact ⟨_, by first | rfl | (simp [errW_none, errW_some] <;> rfl) | (simp [*, errW_none, errW_some] <;> rfl), by (with_reducible repeat (first | apply Kd.R_alloc | apply Kd.R_drewN | apply Kd.R_drew)); exact HO_3.out, by repeat (first | (with_reducible first | exact HB.out | apply below_alloc | apply pw_below_drewN | apply below_drew1) | exact HB.out)⟩

def mdSw (bs : List UInt8) (r : Nat) : List UInt8 := (bs.set r (bs.getD (r + 1) 0)).set (r + 1) (bs.getD r 0)
theorem mdSw_length (bs : List UInt8) (r : Nat) : (mdSw bs r).length = bs.length := by simp [mdSw]
theorem mdSw_mdSw (bs : List UInt8) (r : Nat) (h : r + 1 < bs.length) : mdSw (mdSw bs r) r = bs := by
 have h1 : r < bs.length := by omega
 apply List.ext_getElem?
 intro j
 have e1 : (mdSw bs r).getD (r + 1) 0 = bs.getD r 0 := by simp [mdSw, h]
 have e2 : (mdSw bs r).getD r 0 = bs.getD (r + 1) 0 := by simp [mdSw, h1, h]
 show ((((mdSw bs r).set r ((mdSw bs r).getD (r + 1) 0))).set (r + 1) ((mdSw bs r).getD r 0))[j]? = bs[j]?
 rw [e1, e2]
 unfold mdSw
 simp only [List.getElem?_set, List.length_set]
 by_cases h2 : r + 1 = j
 ·
  subst h2
  simp [h]
 ·
  rw [if_neg h2]
  by_cases h3 : r = j
  ·
   subst h3
   simp [h1]
  ·
   rw [if_neg h3, if_neg h2, if_neg h3]
theorem mdSw_iff {n : Nat} {q bs : List UInt8} (hq : q.length = n) (hb : bs.length = n) {r : Nat} (h : r < n - 1) : mdSw q r = bs ↔ mdSw bs r = q := by
 constructor
 ·
  intro e; rw [← e]; exact mdSw_mdSw q r (by omega)
 ·
  intro e; rw [← e]; exact mdSw_mdSw bs r (by omega)
def mdSum : Nat → (Nat → Int) → Int
 | 0, _ => 0
 | r + 1, f => mdSum r f + f r
def mdAny : Nat → (Nat → Bool) → Bool
 | 0, _ => false
 | r + 1, f => mdAny r f || f r
theorem mdSum_congr {f g : Nat → Int} : ∀ m : Nat, (∀ r, r < m → f r = g r) → mdSum m f = mdSum m g
 | 0, _ => rfl
 | m + 1, h => by rw [mdSum, mdSum, mdSum_congr m fun r hr => h r (by omega), h m (by omega)]
theorem mdSum_add {f g : Nat → Int} : ∀ m : Nat, mdSum m f + mdSum m g = mdSum m fun r => f r + g r
 | 0 => rfl
 | m + 1 => by rw [mdSum, mdSum, mdSum, ← mdSum_add m]; omega
theorem mdSum_zero {f : Nat → Int} : ∀ m : Nat, (∀ r, r < m → f r = 0) → mdSum m f = 0
 | 0, _ => rfl
 | m + 1, h => by rw [mdSum, mdSum_zero m fun r hr => h r (by omega), h m (by omega)]; rfl
theorem mdAny_congr {f g : Nat → Bool} : ∀ m : Nat, (∀ r, r < m → f r = g r) → mdAny m f = mdAny m g
 | 0, _ => rfl
 | m + 1, h => by rw [mdAny, mdAny, mdAny_congr m fun r hr => h r (by omega), h m (by omega)]
theorem mdAny_or {f g : Nat → Bool} : ∀ m : Nat, (mdAny m f || mdAny m g) = mdAny m fun r => f r || g r
 | 0 => rfl
 | m + 1 => by
  rw [mdAny, mdAny, mdAny, ← mdAny_or m]
  cases mdAny m f <;> cases mdAny m g <;> cases f m <;> cases g m <;> rfl
theorem mdAny_false {f : Nat → Bool} : ∀ m : Nat, (∀ r, r < m → f r = false) → mdAny m f = false
 | 0, _ => rfl
 | m + 1, h => by rw [mdAny, mdAny_false m fun r hr => h r (by omega), h m (by omega)]; rfl
theorem mdWrap_add (a b : Int) : wrap64 (wrap64 a + b) = wrap64 (a + b) := by unfold wrap64; omega
def mdStepC (n : Nat) (c : List UInt8 → Int) (bs : List UInt8) : Int := if bs.length = n then wrap64 (mdSum (n - 1) fun r => c (mdSw bs r)) else 0
def mdStepH (n : Nat) (h : List UInt8 → Bool) (bs : List UInt8) : Bool := decide (bs.length = n) && mdAny (n - 1) fun r => h (mdSw bs r)
def mdMidC (n : Nat) (c : List UInt8 → Int) (left : List UInt8 → Bool) (q : List UInt8) (m : Int) (i : Nat) (bs : List UInt8) : Int :=
 if bs.length = n then wrap64 ((mdSum (n - 1) fun r => if left (mdSw bs r) then 0 else c (mdSw bs r)) + mdSum i fun r => if mdSw q r = bs then m else 0) else 0
def mdMidH (n : Nat) (h : List UInt8 → Bool) (left : List UInt8 → Bool) (q : List UInt8) (i : Nat) (bs : List UInt8) : Bool :=
 decide (bs.length = n) && ((mdAny (n - 1) fun r => !left (mdSw bs r) && h (mdSw bs r)) || mdAny i fun r => decide (mdSw q r = bs))
theorem mdMid_start {n : Nat} {c : List UInt8 → Int} {h left : List UInt8 → Bool} (hl : ∀ z, left z = h z) (hc : ∀ z, h z = false → c z = 0) (q : List UInt8) (m : Int) :
  (∀ bs, mdMidC n c left q m 0 bs = 0) ∧ ∀ bs, mdMidH n h left q 0 bs = false := by
 constructor
 ·
  intro bs
  unfold mdMidC
  split
  ·
   rw [mdSum_zero (n - 1) (fun r _ => by
    split
    ·
     rfl
    ·
     rename_i e
     exact hc _ (by rw [← hl]; simpa using e))]
   simp only [mdSum]
   unfold wrap64
   omega
  ·
   rfl
 ·
  intro bs
  unfold mdMidH
  rw [mdAny_false (n - 1) (fun r _ => by rw [hl]; cases h (mdSw bs r) <;> rfl)]
  simp [mdAny]
theorem mdMidC_step {n : Nat} {c : List UInt8 → Int} {left : List UInt8 → Bool} {q : List UInt8} {m : Int} {i : Nat} (hq : q.length = n) (bs : List UInt8) :
  mdMidC n c left q m (i + 1) bs = if bs = mdSw q i then wrap64 (mdMidC n c left q m i bs + m) else mdMidC n c left q m i bs := by
 by_cases e : bs = mdSw q i
 ·
  rw [if_pos e]
  have hb : bs.length = n := by rw [e, mdSw_length, hq]
  unfold mdMidC
  rw [if_pos hb, if_pos hb, mdWrap_add, mdSum, if_pos e.symm, Int.add_assoc]
 ·
  rw [if_neg e]
  unfold mdMidC
  rw [mdSum, if_neg (c := mdSw q i = bs) (fun h => e h.symm), Int.add_zero]
theorem mdMidH_step {n : Nat} {h left : List UInt8 → Bool} {q : List UInt8} {i : Nat} (hq : q.length = n) (bs : List UInt8) :
  mdMidH n h left q (i + 1) bs = if bs = mdSw q i then true else mdMidH n h left q i bs := by
 by_cases e : bs = mdSw q i
 ·
  rw [if_pos e]
  have hb : bs.length = n := by rw [e, mdSw_length, hq]
  unfold mdMidH
  rw [mdAny, decide_eq_true hb, decide_eq_true e.symm]
  simp
 ·
  rw [if_neg e]
  unfold mdMidH
  rw [mdAny, decide_eq_false (p := mdSw q i = bs) (fun h => e h.symm), Bool.or_false]
theorem mdMidC_done {n : Nat} {c : List UInt8 → Int} {left left' : List UInt8 → Bool} {q : List UInt8} (hq : q.length = n) (hlq : left q = true) (hl : ∀ z, left' z = (left z && !decide (z = q))) (q' : List UInt8) (m' : Int) (bs : List UInt8) :
  mdMidC n c left q (c q) (n - 1) bs = mdMidC n c left' q' m' 0 bs := by
 unfold mdMidC
 split
 ·
  rename_i hb
  rw [mdSum_add, mdSum, Int.add_zero]
  congr 1
  apply mdSum_congr
  intro r hr
  rw [hl]
  by_cases e : mdSw bs r = q
  ·
   rw [if_pos ((mdSw_iff hq hb hr).2 e), e, hlq]
   simp
  ·
   rw [if_neg (fun h => e ((mdSw_iff hq hb hr).1 h)), Int.add_zero, decide_eq_false e]
   simp
 ·
  rfl
theorem mdMidH_done {n : Nat} {h left left' : List UInt8 → Bool} {q : List UInt8} (hq : q.length = n) (hlq : left q = true) (hhq : h q = true) (hl : ∀ z, left' z = (left z && !decide (z = q))) (q' : List UInt8) (bs : List UInt8) :
  mdMidH n h left q (n - 1) bs = mdMidH n h left' q' 0 bs := by
 unfold mdMidH
 by_cases hb : bs.length = n
 ·
  rw [decide_eq_true hb, Bool.true_and, Bool.true_and, mdAny_or, mdAny, Bool.or_false]
  apply mdAny_congr
  intro r hr
  rw [hl]
  by_cases e : mdSw bs r = q
  ·
   rw [decide_eq_true ((mdSw_iff hq hb hr).2 e), e, hhq]
   simp
  ·
   rw [decide_eq_false (fun h => e ((mdSw_iff hq hb hr).1 h)), decide_eq_false e]
   simp
 ·
  rw [decide_eq_false hb]
  rfl
theorem mdMid_end {n : Nat} {c : List UInt8 → Int} {h left : List UInt8 → Bool} (hl : ∀ z, left z = false) (q : List UInt8) (m : Int) : (∀ bs, mdMidC n c left q m 0 bs = mdStepC n c bs) ∧ ∀ bs, mdMidH n h left q 0 bs = mdStepH n h bs := by
 constructor
 ·
  intro bs
  unfold mdMidC mdStepC
  split
  ·
   rw [mdSum, Int.add_zero]
   simp only [hl]
   rfl
  ·
   rfl
 ·
  intro bs
  unfold mdMidH mdStepH
  rw [mdAny_congr (n - 1) fun r _ => by rw [hl, Bool.not_false, Bool.true_and], mdAny, Bool.or_false]
def mdC (n : Nat) (q0 : List UInt8) : Nat → List UInt8 → Int
 | 0, bs => if bs = q0 then 1 else 0
 | j + 1, bs => mdStepC n (mdC n q0 j) bs
def mdH (n : Nat) (q0 : List UInt8) : Nat → List UInt8 → Bool
 | 0, bs => decide (bs = q0)
 | j + 1, bs => mdStepH n (mdH n q0 j) bs
theorem mdH_length {n : Nat} {q0 : List UInt8} (h0 : q0.length = n) : ∀ {j : Nat} {bs : List UInt8}, mdH n q0 j bs = true → bs.length = n
 | 0, bs, h => by rw [of_decide_eq_true h, h0]
 | j + 1, bs, h => by
  unfold mdH mdStepH at h
  rw [Bool.and_eq_true] at h
  exact of_decide_eq_true h.1
def MapReads (D : DataW Unit) (c : List UInt8 → Int) (h : List UInt8 → Bool) : Prop :=
 Go.Maps.IsMap D ∧ (∀ bs, D.atKey (.string bs) (.lit (.int .i64 0)) = .lit (.int .i64 (c bs))) ∧ ∀ bs, Go.Maps.has D (.string bs) = h bs
theorem MapReads.empty : MapReads (.map []) (fun _ => 0) fun _ => false :=
 ⟨Go.Maps.isMap_empty, fun bs => rfl, fun bs => rfl⟩
theorem MapReads.congr {D : DataW Unit} {c c' : List UInt8 → Int} {h h' : List UInt8 → Bool} (r : MapReads D c h) (hc : ∀ bs, c bs = c' bs) (hh : ∀ bs, h bs = h' bs) : MapReads D c' h' :=
 ⟨r.1, fun bs => by rw [r.2.1, hc], fun bs => by rw [r.2.2, hh]⟩
theorem MapReads.put {D : DataW Unit} {c : List UInt8 → Int} {h : List UInt8 → Bool} (r : MapReads D c h) (k : List UInt8) (v : Int) :
  MapReads (D.put (.string k) (.lit (.int .i64 v))) (fun bs => if bs = k then v else c bs) (fun bs => if bs = k then true else h bs) := by
 refine ⟨r.1.put _ _, fun bs => ?_, fun bs => ?_⟩
 ·
  by_cases e : bs = k
  ·
   subst e
   simp only [if_pos]
   exact Go.Maps.atKey_put_same r.1 (by simp [Go.WideAt.IsKeyLit]) _ _
  ·
   simp only [if_neg e]
   rw [Go.Maps.atKey_put_other (fun h => e (Lit.string.inj h)), r.2.1]
 ·
  by_cases e : bs = k
  ·
   subst e
   simp only [if_pos]
   exact Go.Maps.has_put_same r.1 (by simp [Go.WideAt.IsKeyLit]) _
  ·
   simp only [if_neg e]
   rw [Go.Maps.has_put_other (fun h => e (Lit.string.inj h)), r.2.2]
theorem MapReads.zero {D : DataW Unit} {c : List UInt8 → Int} {h : List UInt8 → Bool} (r : MapReads D c h) (bs : List UInt8) (e : h bs = false) : c bs = 0 := by
 have h1 := Go.Maps.atKey_of_not_has (by rw [r.2.2, e] : Go.Maps.has D (.string bs) = false) (.lit (.int .i64 0))
 rw [r.2.1] at h1
 simpa using h1
theorem mdSameKey (a b : List UInt8) : (Lit.string a).sameKey (.string b) = decide (a = b) := by
 by_cases e : a = b
 ·
  subst e
  rw [decide_eq_true rfl]
  exact Go.WideAt.sameKey_self trivial
 ·
  rw [decide_eq_false e]
  exact Go.Maps.sameKey_ne fun h => e (Lit.string.inj h)
theorem MapReads.mid_put {N' : DataW Unit} {n : Nat} {c : List UInt8 → Int} {h left : List UInt8 → Bool} {q : List UInt8} {m : Int} {i : Nat} (hq : q.length = n)
  (r : MapReads N' (mdMidC n c left q m i) (mdMidH n h left q i)) (v : Int) (hv : v = wrap64 (mdMidC n c left q m i (mdSw q i) + m)) :
  MapReads (N'.put (.string (mdSw q i)) (.lit (.int .i64 v))) (mdMidC n c left q m (i + 1)) (mdMidH n h left q (i + 1)) := by
 refine (r.put (mdSw q i) v).congr (fun bs => ?_) fun bs => ?_
 ·
  rw [mdMidC_step hq]
  by_cases e : bs = mdSw q i
  ·
   rw [if_pos e, if_pos e, hv, e]
  ·
   rw [if_neg e, if_neg e]
 ·
  rw [mdMidH_step hq]
theorem MapReads.size {D : DataW Unit} {c : List UInt8 → Int} {h : List UInt8 → Bool} (r : MapReads D c h) (ht : Go.Maps.Tidy D) (hk : ∀ es, D = .map es → ∀ p ∈ es, ∃ s, p.1 = .string s) (all : List (List UInt8)) (hn : all.Nodup) (ha : ∀ bs, h bs = true → bs ∈ all) :
  Go.Maps.size D = (all.filter h).length := by
 obtain ⟨es, rfl, hp⟩ := ht
 show es.length = _
 have e1 : es.length = (es.map fun p => p.1).length := by simp
 have e2 : (all.filter h).length = ((all.filter h).map Lit.string).length := by simp
 rw [e1, e2]
 apply List.Perm.length_eq
 have n1 : (es.map fun p => p.1).Nodup := by
  unfold List.Nodup
  rw [List.pairwise_map]
  exact hp
 have n2 : ((all.filter h).map Lit.string).Nodup := by
  unfold List.Nodup
  rw [List.pairwise_map]
  exact (List.Pairwise.filter h hn).imp fun {a b} hab e => hab (Lit.string.inj e)
 refine (List.perm_ext_iff_of_nodup n1 n2).2 fun l => ?_
 rw [List.mem_map, List.mem_map]
 constructor
 ·
  rintro ⟨p, hpm, rfl⟩
  obtain ⟨s, hs⟩ := hk es rfl p hpm
  refine ⟨s, List.mem_filter.2 ⟨ha s ?_, ?_⟩, hs.symm⟩
  all_goals
   rw [← r.2.2 s]
   exact List.any_eq_true.2 ⟨p, hpm, by rw [hs]; exact Go.WideAt.sameKey_self trivial⟩
 ·
  rintro ⟨s, hs, rfl⟩
  have h1 := (List.mem_filter.1 hs).2
  rw [← r.2.2 s] at h1
  obtain ⟨p, hpm, hpe⟩ := List.any_eq_true.1 h1
  obtain ⟨s', hs'⟩ := hk es rfl p hpm
  refine ⟨p, hpm, ?_⟩
  rw [hs', mdSameKey] at hpe
  rw [hs', of_decide_eq_true hpe]

theorem md_law : Go.Maps.Keyed Try.prog 9 := Go.Maps.string_keyed Try.underlying9
theorem md_zero (w : World) : (zeroValue 3).run Try.prog w = .ok (.int .i64 0) w := by kernel_rfl
theorem md_key_inv {P : Program} {k : TypeId} (hk : P.underlying k = some .string) {key : Value} {kl : Lit} (h : keyOf P k key = some kl) : ∃ s : ByteArray, key = .string s ∧ kl = .string s.data.toList ∧ s.size ≤ maxLen := by
 cases key <;> simp [keyOf, hk, mapKey] at h
 rename_i s
 exact ⟨s, rfl, h.2.symm, h.1⟩
theorem md_insert_own {H : Type} {P : Program} (w : World) {ops : Array Oper} {rest : List Oper} {o : Oper} {a : Act} {Q : Exit → Act → World → Prop}
  (hg : o.guard = none) (m x v : Operand) (t : TypeId) (hop : o.op = Op.insert t m x v)
  (k e : TypeId) (K : Go.Maps.Keyed P k) (ht : P.underlying t = some (.map k e)) (R : Value → Option (DataW H × List MemPlace)) (b n : Nat) (D : DataW H)
  (hm : a.eval m = .map (some b)) (hown : w.ownsMap P k R b n D) (hn : n < maxLen) (key val : Value) (kl : Lit) (hx : a.eval x = key) (hv : a.eval v = val) (hkey : keyOf P k key = some kl)
  (d : DataW H) (ps : List MemPlace) (hval : R val = some (d, ps))
  (hK : ∀ w', w'.ownsMap P k R b (n + 1) (D.put kl d) → w.grownBy w' (some b) → wpList P ops Q rest (a.put o.dst undef) w') :
  wpList P ops Q (o :: rest) a w := by
 refine wpList_plain hg fun K' hK' => ?_
 obtain ⟨w', hrun, r1, r2⟩ := hown.update K ht hn hkey hval
 unfold Oper.wp
 simp [execOp, hop, hm, hx, hv, hrun, Result.andThen]
 exact hK' _ _ (hK w' r1 r2)
theorem md_kept {w w' : World} {P : Program} {k : TypeId} {R : Value → Option (DataW Unit × List MemPlace)} {b n : Nat} {D : DataW Unit} (h : w.ownsMap P k R b n D) (hb : w'.heap[b]? = w.heap[b]?) : w'.ownsMap P k R b n D := by
 obtain ⟨es, clock, h1, h2⟩ := h
 exact ⟨es, clock, hb.trans h1, h2⟩
theorem md_ranges_kept {w w' : World} {P : Program} {k : TypeId} {R : Value → Option (DataW Unit × List MemPlace)} {b r n : Nat} {D : DataW Unit} {left : Lit → Bool} {cnt : Nat} (h : w.ranges P k R b r n D left cnt) (hb : w'.heap[b]? = w.heap[b]?) (hr : w'.heap[r]? = w.heap[r]?) : w'.ranges P k R b r n D left cnt := by
 obtain ⟨es, clock, since, seen, c0, h1, h2, h3, h4, h5, h6⟩ := h
 exact ⟨es, clock, since, seen, c0, hb.trans h1, h2, h3, h4, hr.trans h5, h6⟩
def MdRow (w : World) (g e n : Nat) (xs : List UInt8) : Prop := ∃ cs fr, w.heap[g]? = some (.cells cs e fr) ∧ xs.length = n ∧ n ≤ cs.size ∧ n ≤ fr.1 ∧ ∀ j, j < n → cs[j]? = some (.int .u8 (xs.getD j 0).toNat)
theorem MdRow.made (w : World) (e : TypeId) (s : ByteArray) : MdRow (Go.Lib.bytesWorld w e s) w.heap.size e s.size s.data.toList := by
 refine ⟨_, _, Go.Lib.bytesWorld_at_new w e s, by rw [Array.length_toList]; rfl, ?_, ?_, fun j hj => ?_⟩
 ·
  show s.data.size ≤ _
  unfold Go.Lib.bytesCells
  rw [Array.size_append, Array.size_map]
  omega
 ·
  show s.data.size ≤ _
  unfold Go.Lib.bytesCells
  rw [Array.size_append, Array.size_map]
  omega
 ·
  have h := Go.Lib.bytesWorld_cell w e s j hj
  simpa [World.cell?, Go.Lib.bytesWorld_at_new] using h
theorem MdRow.cell {w : World} {g e n : Nat} {xs : List UInt8} (h : MdRow w g e n xs) {j : Nat} (hj : j < n) : w.cell? ⟨g, j, none⟩ = some (.int .u8 (xs.getD j 0).toNat) := by
 obtain ⟨cs, fr, h1, _, _, _, h5⟩ := h
 simp only [World.cell?, h1]
 exact h5 j hj
theorem MdRow.free {w : World} {g e n : Nat} {xs : List UInt8} (h : MdRow w g e n xs) {j : Nat} (hj : j < n) : w.frozen? ⟨g, j, none⟩ = false := by
 obtain ⟨cs, fr, h1, _, _, h4, _⟩ := h
 obtain ⟨lo, hi⟩ := fr
 simp only [World.frozen?, h1]
 have : ¬ lo ≤ j := by simp only at h4; omega
 simp [this]
theorem MdRow.lt {w : World} {g e n : Nat} {xs : List UInt8} (h : MdRow w g e n xs) : g < w.heap.size := by
 obtain ⟨cs, fr, h1, _⟩ := h
 exact (Array.getElem?_eq_some_iff.1 h1).1
theorem MdRow.set {w : World} {g e n : Nat} {xs : List UInt8} (h : MdRow w g e n xs) {i : Nat} (hi : i < n) (v : UInt8) : MdRow (w.setCell ⟨g, i, none⟩ (.int .u8 v.toNat)) g e n (xs.set i v) := by
 obtain ⟨cs, fr, h1, h2, h3, h4, h5⟩ := h
 refine ⟨_, fr, Go.Lib.heap_setCell_same h1 _, by simpa using h2, by simpa using h3, h4, fun j hj => ?_⟩
 rw [Array.getElem?_setIfInBounds, List.getD_eq_getElem?_getD, List.getElem?_set]
 by_cases e : i = j
 ·
  subst e
  rw [if_pos rfl, if_pos (by omega), if_pos rfl, if_pos (by omega)]
  rfl
 ·
  rw [if_neg e, if_neg e, h5 j hj, List.getD_eq_getElem?_getD]
theorem MdRow.drew {w : World} {g e n : Nat} {xs : List UInt8} (h : MdRow w g e n xs) : MdRow w.drew g e n xs := h
theorem MdRow.text {w : World} {g n c : Nat} {xs : List UInt8} (h : MdRow w g 5 n xs) (hn : n ≤ 9223372036854775807) : (convert 22 9 (.slice (some ⟨g, 0, none⟩) n c)).run Try.prog w = .ok (.string ⟨xs.toArray⟩) w := by
 have hl : xs.length = n := by obtain ⟨_, _, _, h2, _⟩ := h; exact h2
 have hr : ReadsInt w .u8 (some ⟨g, 0, none⟩) n (xs.map fun b => (b.toNat : Int)) := by
  refine ⟨by simpa using hl, hn, fun _ => ⟨_, rfl, fun j hj => ?_⟩⟩
  rw [add_plain, h.cell hj]
  simp [List.getD_eq_getElem?_getD, List.getElem?_eq_getElem (show j < xs.length by omega)]
 have e := string_of_reads (c := c) Try.underlying22 Try.underlying5 Try.underlying9 hr
 rw [e]
 congr 2
 unfold strOfNums
 congr 1
 rw [List.map_map]
 congr 1
 simp [Function.comp_def]
theorem md_start {D : DataW Unit} {n : Nat} {c : List UInt8 → Int} {h : List UInt8 → Bool} (r : MapReads D c h) : MapReads (.map []) (mdMidC n c (fun z => Go.Maps.has D (.string z)) [] 0 0) (mdMidH n h (fun z => Go.Maps.has D (.string z)) [] 0) :=
 MapReads.empty.congr (fun bs => ((mdMid_start (n := n) (fun z => r.2.2 z) (fun z hz => r.zero z hz) [] 0).1 bs).symm) (fun bs => ((mdMid_start (n := n) (fun z => r.2.2 z) (fun z hz => r.zero z hz) [] 0).2 bs).symm)
theorem md_finish {N : DataW Unit} {n : Nat} {c : List UInt8 → Int} {h : List UInt8 → Bool} {left : Lit → Bool} (hl : ∀ kl, left kl = false) (r : MapReads N (mdMidC n c (fun z => left (.string z)) [] 0 0) (mdMidH n h (fun z => left (.string z)) [] 0)) : MapReads N (mdStepC n c) (mdStepH n h) :=
 r.congr (fun bs => (mdMid_end (c := c) (h := h) (left := fun z => left (.string z)) (fun z => hl _) [] 0).1 bs) (fun bs => (mdMid_end (c := c) (h := h) (left := fun z => left (.string z)) (fun z => hl _) [] 0).2 bs)
theorem md_after {N : DataW Unit} {n : Nat} {c : List UInt8 → Int} {h : List UInt8 → Bool} {left : Lit → Bool} {q : List UInt8} {m : Int} (hq : q.length = n) (hlq : left (.string q) = true) (hhq : h q = true) (hm : c q = m)
  (r : MapReads N (mdMidC n c (fun z => left (.string z)) q m (n - 1)) (mdMidH n h (fun z => left (.string z)) q (n - 1))) :
  MapReads N (mdMidC n c (fun z => left (.string z) && !(Lit.string z).sameKey (.string q)) [] 0 0) (mdMidH n h (fun z => left (.string z) && !(Lit.string z).sameKey (.string q)) [] 0) := by
 subst hm
 exact r.congr (fun bs => mdMidC_done (left := fun z => left (.string z)) hq hlq (fun z => by rw [mdSameKey]) [] 0 bs) (fun bs => mdMidH_done (left := fun z => left (.string z)) hq hlq hhq (fun z => by rw [mdSameKey]) [] bs)
set_option maxHeartbeats 8000000 in
set_option maxRecDepth 100000 in
theorem impl_made.calls (k n K : Nat) (ids : List Int) (q0 : ByteArray) (w : World) (hn : 2 ≤ n) (hn5 : n ≤ 5) (hK : K ≤ 20) (h1 : impl_identity.f k (n : Int) = some ids) (h2 : impl_orderKey.f k ids = some q0) (hq : q0.data.toList.length = n) :
  Calls Try.prog 36 #[.int .i64 (n : Int), .int .i64 (K : Int)] w fun e w' => ∃ (b m : Nat) (D : DataW Unit), e = .returned (.map (some b)) ∧ w.heap.size ≤ b ∧ w'.ownsMap Try.prog 9 (plainElem Try.prog 3) b m D ∧ MapReads D (mdC n q0.data.toList K) (mdH n q0.data.toList K) ∧ Below w.heap.size w w' := by
 have hmm := @run_makeMap Try.prog
 have A1 := Aside0.mk h1
 have A2 := Aside0.mk h2
 have HQ := Aside0.mk hq
 have hqe : q0.size = q0.data.toList.length := (Array.length_toList).symm
 have HQS := Aside0.mk (show q0.size ≤ maxLen by unfold maxLen; omega)
 clear hqe
 clear h1 h2 hq
 have HM := Aside0.mk (World.ownsMap_made (H := Unit) w Try.prog 9 (plainElem Try.prog 3))
 have hn1w : IntKind.i64.wrap ((n : Int) - 1) = ((n - 1 : Nat) : Int) := by rw [i64_w]; unfold wrap64; omega
 go_enter Try.func36, Try.ntmps36
 go_wp2_with (first
  | (go_at_call 65; refine (impl_identity.calls k (n : Int) ids _ A1.out).mono ?_; rintro e w3 ⟨v3, rfl, ho3, hb3⟩; obtain ⟨A3, c3, rfl, hc3, hr3⟩ := Kd.R_reads ho3; have HR3 := Aside0.mk hr3; have HC3 := Aside0.mk hc3; have HB3 := Aside0.mk (below_step (below_alloc (Below.refl w.heap.size w) (.map #[] 0)) hb3); have HM3 := Aside0.mk (md_kept HM.out (hb3.block w.heap.size (by simp))); clear ho3 hb3 hc3 hr3)
  | (go_at_call 37; refine (impl_orderKey.calls k _ _ ids q0 _ HR3.out HC3.out A2.out).mono ?_; rintro e w4 ⟨rfl, hb4⟩; have HB4 := Aside0.mk (below_step HB3.out hb4); have HM4 := Aside0.mk (md_kept HM3.out (hb4.block w.heap.size HM3.out.lt)); clear hb4)
  | (refine md_insert_own _ rfl _ _ _ 58 rfl 9 3 md_law Try.underlying58 _ w.heap.size 0 (.map []) rfl HM4.out (by unfold maxLen; omega) _ _ _ rfl rfl (Go.WideMaps.keyOf_string_mk Try.underlying9 HQS.out) (.lit (.int .i64 1)) [] (plainElem_int Try.underlying3 (by decide)) ?_; intro w5 hown5 hgr5; have HO5 := Aside0.mk hown5; have HB5 := Aside0.mk (HB4.out.grown hgr5 HB4.out.size (fun j hj => by cases hj; exact Nat.le_refl _)); clear hown5 hgr5))
 have HR5 := Aside0.mk (show MapReads ((DataW.map []).put (.string q0.data.toList) (.lit (.int .i64 1))) (mdC n q0.data.toList 0) (mdH n q0.data.toList 0) from (MapReads.empty.put q0.data.toList 1).congr (fun bs => rfl) (fun bs => by show (if bs = q0.data.toList then true else false) = decide (bs = q0.data.toList); by_cases e : bs = q0.data.toList <;> simp [e]))
 clear HM HM3 HM4 HB3 HB4 HR3 HC3 A1 A2
 go_loopg [5, 17] K (fun gg v5 v17 wr => ∃ (j b m : Nat) (D : DataW Unit), v5 = .map (some b) ∧ v17 = .int .i64 (j : Int) ∧ j ≤ K ∧ K - j ≤ gg ∧ m ≤ 4 ^ j ∧ Aside0 (w.heap.size ≤ b) ∧ Aside0 (wr.ownsMap Try.prog 9 (plainElem Try.prog 3) b m D) ∧ Aside0 (MapReads D (mdC n q0.data.toList j) (mdH n q0.data.toList j)) ∧ Aside0 (Below w.heap.size w wr))
 case atStart => exact ⟨0, w.heap.size, 1, _, rfl, rfl, Nat.zero_le _, by omega, by simp, ⟨Nat.le_refl _⟩, HO5, HR5, HB5⟩
 case round =>
  clear HO5 HR5 HB5
  obtain ⟨wO, hwO⟩ : ∃ x_, x_ = wr := ⟨_, rfl⟩
  subst hwO
  obtain ⟨j, b, m, D, rfl, rfl, hj, hg, hm4, HBb, HO, HRd, HB⟩ := hrel
  by_cases hlt : j < K
  ·
   have hltz : (j : Int) < (K : Int) := by omega
   have e1 : (wO.alloc (.map #[] 0)).heap.size = wO.heap.size + 1 := by simp
   go_wp2_with (first | (at_range; refine wpList_range_own _ rfl _ 58 rfl 9 3 md_law Try.underlying58 _ b m D rfl (HO.out.alloc _) ?_; intro w6 hrg6 hg6 hs6))
   go_frame
   rw [e1] at hrg6 hs6 ⊢
   have HRG := Aside0.mk hrg6
   have HON := Aside0.mk ((World.ownsMap_made (H := Unit) wO Try.prog 9 (plainElem Try.prog 3)).kept hg6 (by simp))
   have HB6 := Aside0.mk ((below_alloc HB.out (.map #[] 0)).grown hg6 (by have := HB.out.size; simp; omega) (fun j hj => by cases hj))
   have HRS := Aside0.mk (md_start (n := n) HRd.out)
   have HSL := Aside0.mk HO.out.size_le
   have HSB := Aside0.mk HB.out.size
   have hnb : b ≠ wO.heap.size := by have := HO.out.lt; omega
   clear hrg6 hg6 hs6 HB e1
   go_loopg [8] m (fun gg v8 w7 => ∃ (left : Lit → Bool) (cnt m2 : Nat) (N : DataW Unit), cnt ≤ gg ∧ m2 + 4 * cnt ≤ 4 * m ∧ Aside0 (w7.ranges Try.prog 9 (plainElem Try.prog 3) b (wO.heap.size + 1) m D left cnt) ∧ Aside0 (w7.ownsMap Try.prog 9 (plainElem Try.prog 3) wO.heap.size m2 N) ∧ Aside0 (MapReads N (mdMidC n (mdC n q0.data.toList j) (fun z => left (.string z)) [] 0 0) (mdMidH n (mdH n q0.data.toList j) (fun z => left (.string z)) [] 0)) ∧ Aside0 (Below w.heap.size w w7))
   case atStart => exact ⟨_, _, 0, .map [], HSL.out, by have := HSL.out; omega, HRG, HON, HRS, HB6⟩
   case round =>
    clear HRG HON HRS HB6
    obtain ⟨left, cnt, m2, N, hcg, hm2, HRG, HON, HRN, HB⟩ := hrel
    go_wp2_with (first | (at_next; refine wpList_next_ranges _ rfl _ rfl 9 md_law _ Value.string (Value.int .i64) (fun key kl h => by obtain ⟨s, rfl, _⟩ := md_key_inv Try.underlying9 h; exact ⟨s, rfl⟩) (fun v y hv => by obtain ⟨c, rfl, _⟩ := plainElem_int_inv Try.underlying3 hv; exact ⟨c, rfl⟩) b (wO.heap.size + 1) m D left cnt rfl HRG.out ?_ ?_))
    ·
     intro hc0 hl0
     have HFIN := Aside0.mk (md_finish hl0 HRN.out)
     clear hl0
     go_wp2
     go_roundg (K - (j + 1))
     case measure => omega
     case rel => exact ⟨j + 1, wO.heap.size, m2, N, rfl, by go_num, by omega, by omega, by rw [Nat.pow_succ]; omega, ⟨HSB.out⟩, HON, HFIN, HB⟩
    ·
     intro x c kl y1 y2 w8 cnt1 hkey hlk hv hat hrg8 hlt8 hg8 hs8 hen
     obtain ⟨x', ex, rfl, hxs⟩ := md_key_inv Try.underlying9 hkey
     cases ex
     obtain ⟨c', ec, ey, hwc⟩ := plainElem_int_inv Try.underlying3 hv
     cases ec
     cases ey
     have HHas := Aside0.mk (show mdH n q0.data.toList j x.data.toList = true by rw [← HRd.out.2.2]; exact Go.Maps.has_true_of_atKey hat)
     have HCnt := Aside0.mk (show mdC n q0.data.toList j x.data.toList = c by have h_ := HRd.out.2.1 x.data.toList; rw [hat] at h_; simpa using h_.symm)
     have HLen := Aside0.mk (mdH_length HQ.out HHas.out)
     have HLk := Aside0.mk hlk
     have HXS := Aside0.mk hxs
     have HR8 := Aside0.mk hrg8
     have HO8 := Aside0.mk (HON.out.kept hg8 (by intro h_; have h2_ := Option.some.inj h_; omega))
     have HB8 := Aside0.mk (HB.out.grown hg8 HB.out.size (fun j hj => by cases hj; have := HSB.out; omega))
     have HRN8 := Aside0.mk (show MapReads N (mdMidC n (mdC n q0.data.toList j) (fun z => left (.string z)) x.data.toList c 0) (mdMidH n (mdH n q0.data.toList j) (fun z => left (.string z)) x.data.toList 0) from HRN.out)
     clear hkey hlk hv hat hrg8 hg8 hxs HRG HON HRN HB
     go_wp2
     go_loopg [29] (n - 1) (fun gg v29 w9 => ∃ (i m3 : Nat) (N3 : DataW Unit), v29 = .int .i64 (i : Int) ∧ i ≤ n - 1 ∧ (n - 1) - i ≤ gg ∧ m3 ≤ m2 + i ∧ Aside0 (w9.ranges Try.prog 9 (plainElem Try.prog 3) b (wO.heap.size + 1) m D (fun z => left z && !z.sameKey (.string x.data.toList)) cnt1) ∧ Aside0 (w9.ownsMap Try.prog 9 (plainElem Try.prog 3) wO.heap.size m3 N3) ∧ Aside0 (MapReads N3 (mdMidC n (mdC n q0.data.toList j) (fun z => left (.string z)) x.data.toList c i) (mdMidH n (mdH n q0.data.toList j) (fun z => left (.string z)) x.data.toList i)) ∧ Aside0 (Below w.heap.size w w9))
     case atStart => exact ⟨0, m2, N, rfl, Nat.zero_le _, by omega, by omega, HR8, HO8, HRN8, HB8⟩
     case round =>
      clear HR8 HO8 HRN8 HB8
      obtain ⟨wI, hwI⟩ : ∃ x_, x_ = wr := ⟨_, rfl⟩
      subst hwI
      obtain ⟨i, m3, N3, rfl, hi, hgi, hm3, HR9, HO9, HRN9, HB9⟩ := hrel
      by_cases hil : i < n - 1
      ·
       have hilz : (i : Int) < ((n - 1 : Nat) : Int) := by omega
       have hi1w : IntKind.i64.wrap ((i : Int) + 1) = ((i + 1 : Nat) : Int) := by rw [i64_w]; unfold wrap64; omega
       have kb := fun W => print_bytes (P := Try.prog) 9 22 5 Try.underlying9 Try.underlying22 Try.underlying5 x W
       go_wp2
       have hxn : x.size = n := (Array.length_toList).symm.trans HLen.out
       have hxi : i + 1 < x.size := by omega
       have HW0 := MdRow.made wI 5 x
       have HSI := Aside0.mk (show wO.heap.size < wI.heap.size from HO9.out.lt)
       have HSR := Aside0.mk (show wO.heap.size + 1 < wI.heap.size from HR9.out.lt)
       have HSD := Aside0.mk (show b < wI.heap.size from HR9.out.owns.lt)
       have HR10 := Aside0.mk (md_ranges_kept HR9.out (Go.Lib.bytesWorld_at_old wI 5 x b HSD.out) (Go.Lib.bytesWorld_at_old wI 5 x _ HSR.out))
       have HO10 := Aside0.mk (md_kept HO9.out (Go.Lib.bytesWorld_at_old wI 5 x _ HSI.out))
       have HB10 := Aside0.mk (below_step HB9.out (Go.Lib.bytesWorld_below wI 5 x))
       have HSW := Aside0.mk HB9.out.size
       clear HR9 HO9 HB9 kb
       generalize Go.Lib.bytesWorld wI 5 x = wB at HW0 HR10 HO10 HB10 ⊢
       obtain ⟨u0, hu0⟩ : ∃ u_, u_ = x.data.toList.getD i 0 := ⟨_, rfl⟩
       obtain ⟨u1, hu1⟩ : ∃ u_, u_ = x.data.toList.getD (i + 1) 0 := ⟨_, rfl⟩
       have hy0 : wB.cell? ⟨wI.heap.size, i, none⟩ = some (.int .u8 u0.toNat) := by rw [hu0]; exact HW0.cell (by omega)
       have hy1 : wB.cell? ⟨wI.heap.size, i + 1, none⟩ = some (.int .u8 u1.toNat) := by rw [hu1]; exact HW0.cell (by omega)
       have hf0 : wB.frozen? ⟨wI.heap.size, i, none⟩ = false := HW0.free (by omega)
       have hf1 : wB.frozen? ⟨wI.heap.size, i + 1, none⟩ = false := HW0.free (by omega)
       have hp0 : (0 : Int) ≤ (i : Int) := by omega
       have hp1 : (i : Int) < (x.size : Int) := by omega
       have hp2 : (0 : Int) ≤ ((i + 1 : Nat) : Int) := by omega
       have hp3 : ((i + 1 : Nat) : Int) < (x.size : Int) := by omega
       have HW2 := Aside0.mk (show MdRow ((wB.setCell ⟨wI.heap.size, i, none⟩ (.int .u8 u1.toNat)).setCell ⟨wI.heap.size, i + 1, none⟩ (.int .u8 u0.toNat)).drew wI.heap.size 5 x.size (mdSw x.data.toList i) by
        have h_ := (HW0.set (i := i) (by omega) u1).set (i := i + 1) (by omega) u0
        rw [hu0, hu1] at h_
        rw [hu0, hu1]
        exact h_)
       have hne1 : wO.heap.size ≠ wI.heap.size := by have := HSI.out; omega
       have hne2 : b ≠ wI.heap.size := by have := HSD.out; omega
       have hne3 : wO.heap.size + 1 ≠ wI.heap.size := by have := HSR.out; omega
       have HO11 := Aside0.mk (md_kept HO10.out (show ((wB.setCell ⟨wI.heap.size, i, none⟩ (.int .u8 u1.toNat)).setCell ⟨wI.heap.size, i + 1, none⟩ (.int .u8 u0.toNat)).drew.heap[wO.heap.size]? = wB.heap[wO.heap.size]? from (Below.heap_setCell _ _ _ _ hne1).trans (Below.heap_setCell _ _ _ _ hne1)))
       have HR11 := Aside0.mk (md_ranges_kept HR10.out (show ((wB.setCell ⟨wI.heap.size, i, none⟩ (.int .u8 u1.toNat)).setCell ⟨wI.heap.size, i + 1, none⟩ (.int .u8 u0.toNat)).drew.heap[b]? = wB.heap[b]? from (Below.heap_setCell _ _ _ _ hne2).trans (Below.heap_setCell _ _ _ _ hne2)) (show ((wB.setCell ⟨wI.heap.size, i, none⟩ (.int .u8 u1.toNat)).setCell ⟨wI.heap.size, i + 1, none⟩ (.int .u8 u0.toNat)).drew.heap[wO.heap.size + 1]? = wB.heap[wO.heap.size + 1]? from (Below.heap_setCell _ _ _ _ hne3).trans (Below.heap_setCell _ _ _ _ hne3)))
       have HB11 := Aside0.mk (show Below w.heap.size w ((wB.setCell ⟨wI.heap.size, i, none⟩ (.int .u8 u1.toNat)).setCell ⟨wI.heap.size, i + 1, none⟩ (.int .u8 u0.toNat)).drew from below_drew1 (below_set (below_set HB10.out HSW.out) HSW.out))
       clear HW0 HR10 HO10 HB10 hu0 hu1 hne1 hne2 hne3
       go_region
       go_big_unhide
       clear hy0 hy1 hf0 hf1 hp0 hp1 hp2 hp3
       generalize ((wB.setCell ⟨wI.heap.size, i, none⟩ (.int .u8 u1.toNat)).setCell ⟨wI.heap.size, i + 1, none⟩ (.int .u8 u0.toNat)).drew = wC at HW2 HR11 HO11 HB11 ⊢
       have hcv := HW2.out.text (c := grownCap wI x.size 0 5) (by omega)
       obtain ⟨s2, hs2⟩ : ∃ s_ : ByteArray, s_ = ⟨(mdSw x.data.toList i).toArray⟩ := ⟨_, rfl⟩
       rw [← hs2] at hcv
       simp only [hxn] at hcv
       have HS2 := Aside0.mk (show s2.data.toList = mdSw x.data.toList i by rw [hs2])
       have HZ2 := Aside0.mk (show s2.size ≤ maxLen by
        have h_ : s2.size = s2.data.toList.length := (Array.length_toList).symm
        rw [h_, HS2.out, mdSw_length, HLen.out]
        unfold maxLen
        omega)
       have HBND := Aside0.mk (show m3 < maxLen by
        have h_ : 4 ^ j ≤ 4 ^ 20 := Nat.pow_le_pow_right (by omega) (by omega)
        unfold maxLen
        omega)
       clear hs2 HW2
       go_wp2_with (first
        | (at_lookup; refine wpList_lookup_own_int _ rfl _ _ 58 rfl 9 3 .i64 md_law Try.underlying58 Try.underlying3 (md_zero _) wO.heap.size m3 N3 rfl HO11.out _ _ rfl (Go.WideMaps.keyOf_string_mk Try.underlying9 HZ2.out) ?_; intro c2 hat2 hwc2; have HA2 := Aside0.mk hat2; clear hat2 hwc2)
        | (at_mapUpdate; refine wpList_mapUpdate_own _ rfl _ _ _ 58 rfl 9 3 md_law Try.underlying58 _ wO.heap.size m3 N3 rfl HO11.out HBND.out _ _ _ rfl rfl (Go.WideMaps.keyOf_string_mk Try.underlying9 HZ2.out) _ [] (plainElem_int Try.underlying3 (wrap64_wf _)) ?_; intro wD hown4 hgr4; have HO12 := Aside0.mk hown4; have HG12 := Aside0.mk hgr4; clear hown4 hgr4))
       have HRN12 := Aside0.mk (HRN9.out.mid_put HLen.out (wrap64 (c2 + c)) (by
        have h_ := HRN9.out.2.1 (mdSw x.data.toList i)
        rw [← HS2.out, HA2.out] at h_
        rw [← HS2.out]
        rw [(Lit.int.inj (DataW.lit.inj h_)).2]))
       rw [← HS2.out] at HRN12
       have HR12 := Aside0.mk (HR11.out.kept HG12.out (by intro h_; have h2_ := Option.some.inj h_; have h3_ := HR11.out.owns.lt; exact hnb h2_) (by intro h_; have h2_ := Option.some.inj h_; omega))
       have HB12 := Aside0.mk (HB11.out.grown HG12.out HB11.out.size (fun j_ hj_ => by cases hj_; exact HSB.out))
       clear HR11 HO11 HB11 HRN9 HG12 HA2
       go_roundg ((n - 1) - (i + 1))
       case measure => omega
       case rel => exact ⟨i + 1, m3 + 1, _, by go_num, by omega, by omega, by omega, HR12, HO12, HRN12, HB12⟩
      ·
       have hin : i = n - 1 := by omega
       subst hin
       have HAFT := Aside0.mk (md_after HLen.out HLk.out HHas.out HCnt.out HRN9.out)
       go_wp2
       go_roundg cnt1
       case measure => omega
       case rel => exact ⟨_, cnt1, m3, N3, Nat.le_refl _, by omega, HR9, HO9, HAFT, HB9⟩
  ·
   have hje : j = K := by omega
   subst hje
   go_wp2
   go_ret
   exact ⟨b, m, D, rfl, HBb.out, HO.out, HRd.out, HB.out⟩

def impl_CountForOrder.f (k : Nat) (a0 : Int) (a1 : Int) (l2 : List Int) : Option (Int × Bool) :=
  (impl_isTold.f a0 a1).bind fun t1 => if t1 = true then ((impl_isOrder.f k l2).bind fun t2 => if t2 = true then (if (l2.length : Int) = a0 then ((impl_identity.f k a0).bind fun ids => (impl_orderKey.f k ids).bind fun q0 => (impl_orderKey.f k l2).bind fun q => if (2 ≤ a0 ∧ a0 ≤ 5 ∧ 0 ≤ a1 ∧ a1 ≤ 20 ∧ (q0.data.toList.length : Int) = a0) ∧ q.size ≤ 1000 then some (mdC a0.toNat q0.data.toList a1.toNat q.data.toList, true) else none) else some (0, false)) else some (0, false)) else some (0, false)
set_option maxHeartbeats 8000000 in
set_option maxRecDepth 100000 in
theorem impl_CountForOrder.calls (k : Nat) (a0 : Int) (a1 : Int) (A2 : Option Addr) (c2 : Nat) (l2 : List Int) (r1 : Int) (r2 : Bool) (w : World) (hr2 : Kd.C (Kd.int .i64) w A2 l2.length l2) (hc2 : l2.length ≤ c2) (h : impl_CountForOrder.f k a0 a1 l2 = some (r1, r2)) :
    Calls Try.prog 6 #[.int .i64 a0, .int .i64 a1, .slice A2 l2.length c2] w fun e w' => e = .returned (.tuple #[.int .i64 r1, .bool r2]) ∧ Below w.heap.size w w' := by
  have HR := Aside0.mk hr2
  have HC := Aside0.mk hc2
  have HB0 := Aside0.mk (Below.refl w.heap.size w)
  clear hr2 hc2
  unfold impl_CountForOrder.f at h
  obtain ⟨t1, e1, h⟩ := Option.bind_eq_some_iff.mp h
  have A1 := Aside0.mk e1
  clear e1
  cases t1 with
  | false =>
    rw [if_neg (by decide)] at h
    simp only [Option.some.injEq, Prod.mk.injEq] at h
    obtain ⟨rfl, rfl⟩ := h
    go_enter Try.func6, Try.ntmps6
    go_wp2_with (first | (go_at_call 34; refine (impl_isTold.calls a0 a1 false _ A1.out).mono ?_; rintro e w' ⟨rfl, ⟨nd, rfl⟩⟩))
    go_ret2
    exact ⟨rfl, by repeat (first | exact HB0.out | apply pw_below_drewN | apply below_drew1)⟩
  | true =>
    rw [if_pos rfl] at h
    obtain ⟨t2, e2, h⟩ := Option.bind_eq_some_iff.mp h
    have A2' := Aside0.mk e2
    clear e2
    cases t2 with
    | false =>
      rw [if_neg (by decide)] at h
      simp only [Option.some.injEq, Prod.mk.injEq] at h
      obtain ⟨rfl, rfl⟩ := h
      go_enter Try.func6, Try.ntmps6
      go_wp2_with (first | (go_at_call 34; refine (impl_isTold.calls a0 a1 true _ A1.out).mono ?_; rintro e w' ⟨rfl, ⟨nd, rfl⟩⟩) | (go_at_call 35; refine (impl_isOrder.calls k _ _ l2 false _ (by repeat (first | exact HR.out | (with_reducible refine Kd.C_drewN ?_ _) | (with_reducible refine Kd.C_drew ?_))) HC.out A2'.out).mono ?_; rintro e w' ⟨rfl, ⟨nd2, rfl⟩⟩))
      go_ret2
      exact ⟨rfl, by repeat (first | exact HB0.out | apply pw_below_drewN | apply below_drew1)⟩
    | true =>
      rw [if_pos rfl] at h
      by_cases hl : (l2.length : Int) = a0
      · rw [if_pos hl] at h
        obtain ⟨ids, e3, h⟩ := Option.bind_eq_some_iff.mp h
        obtain ⟨q0, e4, h⟩ := Option.bind_eq_some_iff.mp h
        obtain ⟨q, e5, h⟩ := Option.bind_eq_some_iff.mp h
        by_cases hc : (2 ≤ a0 ∧ a0 ≤ 5 ∧ 0 ≤ a1 ∧ a1 ≤ 20 ∧ (q0.data.toList.length : Int) = a0) ∧ q.size ≤ 1000
        · rw [if_pos hc] at h
          obtain ⟨⟨c1, c2', c3, c4, c5⟩, c6⟩ := hc
          obtain ⟨n, rfl⟩ : ∃ n : Nat, a0 = n := ⟨a0.toNat, by omega⟩
          obtain ⟨K, rfl⟩ : ∃ n : Nat, a1 = n := ⟨a1.toNat, by omega⟩
          have A3 := Aside0.mk e3
          have A4 := Aside0.mk e4
          have A5 := Aside0.mk e5
          have HQ := Aside0.mk (show q0.data.toList.length = n by omega)
          have HN := Aside0.mk (show 2 ≤ n ∧ n ≤ 5 ∧ K ≤ 20 by omega)
          have HZ := Aside0.mk (show q.size ≤ maxLen by unfold maxLen; omega)
          clear e3 e4 e5 c1 c2' c3 c4 c5 c6
          simp only [Option.some.injEq, Prod.mk.injEq, Int.toNat_natCast] at h
          obtain ⟨rfl, rfl⟩ := h
          go_enter Try.func6, Try.ntmps6
          go_wp2_with (first | (go_at_call 34; refine (impl_isTold.calls _ _ true _ A1.out).mono ?_; rintro e w' ⟨rfl, ⟨nd, rfl⟩⟩) | (go_at_call 35; refine (impl_isOrder.calls k _ _ l2 true _ (by repeat (first | exact HR.out | (with_reducible refine Kd.C_drewN ?_ _) | (with_reducible refine Kd.C_drew ?_))) HC.out A2'.out).mono ?_; rintro e w' ⟨rfl, ⟨nd2, rfl⟩⟩) | (go_at_call 36; refine (impl_made.calls k n K ids q0 _ HN.out.1 HN.out.2.1 HN.out.2.2 A3.out A4.out HQ.out).mono ?_; rintro e w5 ⟨b, m, D, rfl, hb, hown, hrd, hbel⟩; have HO := Aside0.mk hown; have HRd := Aside0.mk hrd; have HB2 := Aside0.mk (below_step (by repeat (first | exact HB0.out | apply pw_below_drewN | apply below_drew1)) hbel); clear hb hown hrd hbel) | (go_at_call 37; refine (impl_orderKey.calls k _ _ l2 q _ (Kd.C_below HR.out HB2.out) HC.out A5.out).mono ?_; rintro e w6 ⟨rfl, hb6⟩; have HO6 := Aside0.mk (md_kept HO.out (hb6.block b HO.out.lt)); have HB3 := Aside0.mk (below_step HB2.out hb6); clear hb6) | (at_lookup; refine wpList_lookup_own_int _ rfl _ _ 58 rfl 9 3 .i64 md_law Try.underlying58 Try.underlying3 (md_zero _) b m D rfl HO6.out _ _ rfl (Go.WideMaps.keyOf_string_mk Try.underlying9 HZ.out) ?_; intro c7 hat7 hwc7; have HE := Aside0.mk (show mdC n q0.data.toList K q.data.toList = c7 by have h_ := HRd.out.2.1 q.data.toList; rw [hat7] at h_; exact ((Lit.int.inj (DataW.lit.inj h_)).2).symm); clear hat7 hwc7))
          go_ret2
          exact ⟨by rw [HE.out]; rfl, HB3.out⟩
        · rw [if_neg hc] at h; cases h
      · rw [if_neg hl] at h
        simp only [Option.some.injEq, Prod.mk.injEq] at h
        obtain ⟨rfl, rfl⟩ := h
        have hlb : ((l2.length : Int) != a0) = true := bne_iff_ne.mpr hl
        go_enter Try.func6, Try.ntmps6
        go_wp2_with (first | (go_at_call 34; refine (impl_isTold.calls a0 a1 true _ A1.out).mono ?_; rintro e w' ⟨rfl, ⟨nd, rfl⟩⟩) | (go_at_call 35; refine (impl_isOrder.calls k _ _ l2 true _ (by repeat (first | exact HR.out | (with_reducible refine Kd.C_drewN ?_ _) | (with_reducible refine Kd.C_drew ?_))) HC.out A2'.out).mono ?_; rintro e w' ⟨rfl, ⟨nd2, rfl⟩⟩))
        go_ret2
        exact ⟨rfl, by repeat (first | exact HB0.out | apply pw_below_drewN | apply below_drew1)⟩

end Go.Proofs.Ytabobnlpcapohaa.Q
