/- Each function below comes to the Lean function beside it (theorems '.calls'); no condition beyond each theorem's own. Written by our program oprint.py over the kit's print. -/
import Derived.Test.YtabobnlpcapohaaQm0
import Derived.Test.YtabobnlpcapohaaQm9
import Derived.Test.YtabobnlpcapohaaQm2
import Derived.Test.YtabobnlpcapohaaQm4
import Derived.Maps.OwnOps
import Derived.Maps.OwnSet
import Derived.Test.YtabobnlpcapohaaQm3
import Derived.Test.YtabobnlpcapohaaQm1
import Derived.Test.YtabobnlpcapohaaQm5
import Derived.Test.YtabobnlpcapohaaQm6
import Derived.Test.YtabobnlpcapohaaQm7
import Derived.Test.YtabobnlpcapohaaQm8
namespace Go.Proofs.Ytabobnlpcapohaa.Q
open Go.RowKit Go.Proofs.YtabobnlpcapohaaW.PrintWords Go.Proofs.YtabobnlpcapohaaW.PrintLast Go.Proofs.YtabobnlpcapohaaW.PrintMore
attribute [local go_sem] max2_int min2_int max_two min_two max_three min_three max_four min_four
set_option linter.unusedVariables false
set_option linter.unusedSimpArgs false

mutual
def spec_FirstAll.l0 : Nat → Int → Int → Option (Int × Bool)
 | 0, _, _ => none
 | k + 1, x0, x4 => (spec_chOrders.f k x0 x4).bind fun t512 => ((spec_chOrders.f k x0 (wrap64 (x4 + 1))).bind fun t515 => (spec_FirstAll.l1 k x0 x4 t512 t515 true (t512.length : Int) 0))
def spec_FirstAll.l1 : Nat → Int → Int → List Int → List Int → Bool → Int → Int → Option (Int × Bool)
 | 0, _, _, _, _, _, _, _ => none
 | k + 1, x0, x4, x5, x6, x7, x22, x23 => if x23 < x22 then (if x7 = true then (if 0 ≤ x23 then (if x23 < (x5.length : Int) then (if x23 < (x6.length : Int) then (spec_FirstAll.l1 k x0 x4 x5 x6 (decide ((wrap64 ((rd x5 x23) + (rd x6 x23))) > 0)) x22 (wrap64 (x23 + 1))) else (none)) else (none)) else (none)) else (spec_FirstAll.l1 k x0 x4 x5 x6 false x22 (wrap64 (x23 + 1)))) else (if x7 = true then (some (x4, true)) else (spec_FirstAll.l0 k x0 (wrap64 (x4 + 1))))
end
def spec_FirstAll.f (k : Nat) (a0 : Int) : Option (Int × Bool) := (spec_l1In.f a0 2 5).bind fun t511 => (if t511 = true then (spec_FirstAll.l0 k a0 0) else (some (0, false)))
theorem spec_FirstAll.mono_l : ∀ k, (∀ y0 y1, LeO (spec_FirstAll.l0 k y0 y1) (spec_FirstAll.l0 (k + 1) y0 y1)) ∧ (∀ y0 y1 y2 y3 y4 y5 y6, LeO (spec_FirstAll.l1 k y0 y1 y2 y3 y4 y5 y6) (spec_FirstAll.l1 (k + 1) y0 y1 y2 y3 y4 y5 y6))
 | 0 => ⟨fun _ _ r h => by simp [spec_FirstAll.l0] at h, fun _ _ _ _ _ _ _ r h => by simp [spec_FirstAll.l1] at h⟩
 | k + 1 => by
  obtain ⟨ih0, ih1⟩ := spec_FirstAll.mono_l k
  refine ⟨?_, ?_⟩
  ·
   intro y0 y1
   unfold spec_FirstAll.l0
   repeat' first
   | (with_reducible exact ih0 _ _)
   | (with_reducible exact ih1 _ _ _ _ _ _ _)
   | (with_reducible exact spec_chOrders.mono _ _ _)
   | (with_reducible exact LeO.refl _)
   | (with_reducible exact LeO.none _)
   | (with_reducible refine LeO.ite ?_ ?_)
   | (with_reducible refine LeO.bind ?_ (fun _ => ?_))
   | exact ih0 _ _
   | exact ih1 _ _ _ _ _ _ _
   | exact spec_chOrders.mono _ _ _
   | exact LeO.none _
   | refine LeO.ite ?_ ?_
   | refine LeO.bind ?_ (fun _ => ?_)
  ·
   intro y0 y1 y2 y3 y4 y5 y6
   unfold spec_FirstAll.l1
   repeat' first
   | (with_reducible exact ih0 _ _)
   | (with_reducible exact ih1 _ _ _ _ _ _ _)
   | (with_reducible exact spec_chOrders.mono _ _ _)
   | (with_reducible exact LeO.refl _)
   | (with_reducible exact LeO.none _)
   | (with_reducible refine LeO.ite ?_ ?_)
   | (with_reducible refine LeO.bind ?_ (fun _ => ?_))
   | exact ih0 _ _
   | exact ih1 _ _ _ _ _ _ _
   | exact spec_chOrders.mono _ _ _
   | exact LeO.none _
   | refine LeO.ite ?_ ?_
   | refine LeO.bind ?_ (fun _ => ?_)
theorem spec_FirstAll.mono : ∀ a0 k, LeO (spec_FirstAll.f k a0) (spec_FirstAll.f (k + 1) a0) := by
 intro a0 k
 obtain ⟨ih0, ih1⟩ := spec_FirstAll.mono_l k
 unfold spec_FirstAll.f
 repeat' first
   | (with_reducible exact ih0 _ _)
   | (with_reducible exact ih1 _ _ _ _ _ _ _)
   | (with_reducible exact spec_chOrders.mono _ _ _)
   | (with_reducible exact LeO.refl _)
   | (with_reducible exact LeO.none _)
   | (with_reducible refine LeO.ite ?_ ?_)
   | (with_reducible refine LeO.bind ?_ (fun _ => ?_))
   | exact ih0 _ _
   | exact ih1 _ _ _ _ _ _ _
   | exact spec_chOrders.mono _ _ _
   | exact LeO.none _
   | refine LeO.ite ?_ ?_
   | refine LeO.bind ?_ (fun _ => ?_)
set_option maxHeartbeats 8000000 in
set_option maxRecDepth 100000 in
theorem spec_FirstAll.calls (k : Nat) (a0 : Int) (r1 : Int) (r2 : Bool) (w : World) (h : spec_FirstAll.f k a0 = some (r1, r2)) :
  Calls Try.prog 28 #[.int .i64 a0] w fun e w' => e = .returned (.tuple #[.int .i64 r1, .bool r2]) ∧ Below w.heap.size w w' := by
 (have HB := Zm (Below.refl w.heap.size w); have H : ((spec_l1In.f a0 2 5).bind fun t511 => (if t511 = true then (spec_FirstAll.l0 k a0 0) else (some (0, false)))) = some (r1, r2) := h; clear h); replace H := Option.bind_eq_some_iff.mp H; obtain ⟨t511, A20, H⟩ := H; replace H : (if t511 = true then (spec_FirstAll.l0 k a0 0) else (some (0, false))) = some (r1, r2) := H; have A2 := Aside0.mk A20; clear A20
 by_cases c3 : t511 = true
 ·
  subst c3
  rw [if_pos rfl] at H
  have H' := Aside0.mk H; clear H
  go_enter Try.func28, Try.ntmps28
  go_wp2_with (first | (go_at_call 30; (with_reducible refine (spec_l1In.calls a0 2 5 true _ A2.out).mono ?_); rintro e w' ⟨rfl, ⟨nd, rfl⟩⟩; (try first | exact ⟨rfl, _, World.drewN_drewN _ _ _⟩ | exact ⟨rfl, _, Eq.trans (World.drewN_drewN _ _ _) (congrArg (World.drewN _) (Nat.add_assoc _ _ _))⟩)))
  repeat (go_quiet (fail); try go_wp2)
  go_loopg [4] k (fun kq v4 w' => ∃ (x4_1 : Int), v4 = .int .i64 x4_1 ∧ Aside0 (spec_FirstAll.l0 kq a0 x4_1 = some (r1, r2)) ∧ Aside0 (kq ≤ k) ∧ Aside0 (Below w.heap.size w w'))
  case atStart => exact ⟨(0), (by first | rfl | (simp; done) | (simp [*]; done)), H', ⟨Nat.le_refl _⟩, ⟨Zl HB⟩⟩
  case round =>
   (clear H'; (try clear c2); (try clear p2); (try clear c3)); obtain ⟨x4_1, rfl, HA, HK1, HB⟩ := hrel
   cases gk with
   | zero => exact absurd HA.out (by simp [spec_FirstAll.l0])
   | succ k1 =>
    have H := HA.out; clear HA
    simp only [spec_FirstAll.l0] at H
    replace H := Option.bind_eq_some_iff.mp H; obtain ⟨t512, A40, H⟩ := H; (replace H : ((spec_chOrders.f k1 a0 (wrap64 (x4_1 + 1))).bind fun t515 => (spec_FirstAll.l1 k1 a0 x4_1 t512 t515 true (t512.length : Int) 0)) = some (r1, r2) := H); have A4 := Aside0.mk A40; clear A40; replace H := Option.bind_eq_some_iff.mp H; obtain ⟨t515, A50, H⟩ := H; replace H : (spec_FirstAll.l1 k1 a0 x4_1 t512 t515 true (t512.length : Int) 0) = some (r1, r2) := H; have A5 := Aside0.mk A50; clear A50; have H' := Aside0.mk H; clear H
    go_wp2_with (first | (go_at_call 40; (with_reducible refine (spec_chOrders.calls k1 a0 x4_1 t512 _ A4.out).mono ?_); rintro e w6 ⟨v513, rfl, ho0, hb⟩; have HO514 := Zj ho0 HB; replace HB := Zh HB hb; (try clear hb); (try clear ho0)) | (go_at_call 40; (with_reducible refine (spec_chOrders.calls k1 a0 (wrap64 (x4_1 + 1)) t515 _ A5.out).mono ?_); rintro e w7 ⟨v516, rfl, ho0, hb⟩; have HO517 := Zj (Zv ho0 HO514) HB; replace HO514 := Zm (Kd.R_elder' (Zr HO514) (Kd.R_base ho0) hb); replace HB := Zh HB hb; (try clear hb); (try clear ho0); obtain ⟨Ao8, co8, eo8⟩ := Kd.R_slice HO514.out; subst eo8))
    repeat (go_quiet (fail); try go_wp2)
    go_loopg [7, 23] k1 (fun kq v7 v23 w' => ∃ (x7_2 : Bool) (x23_2 : Int), v7 = .bool x7_2 ∧ v23 = .int .i64 x23_2 ∧ Aside0 (spec_FirstAll.l1 kq a0 x4_1 t512 t515 x7_2 (t512.length : Int) x23_2 = some (r1, r2)) ∧ Aside0 (kq ≤ k1) ∧ Aside0 (Kd.R (Kd.int .i64) 3 w' w.heap.size (fun k_ => Zn k_ v516) (.slice Ao8 t512.length co8) t512) ∧ Aside0 (Kd.R (Kd.int .i64) 3 w' w.heap.size (fun k_ => Zn k_ (.slice Ao8 t512.length co8)) v516 t515) ∧ Aside0 (Below w.heap.size w w'))
    case atStart => exact ⟨(true), (0), (by first | rfl | (simp; done) | (simp [*]; done)), (by first | rfl | (simp; done) | (simp [*]; done)), H', ⟨Nat.le_refl _⟩, ⟨Zc HO514⟩, ⟨Zc HO517⟩, ⟨Zl HB⟩⟩
    case round =>
     (clear H'; (try clear c2); (try clear p2); (try clear c3); (try clear p6); (try clear p2)); obtain ⟨x7_2, x23_2, rfl, rfl, HA, HK2, HO_5, HO_6, HB⟩ := hrel
     cases gk with
     | zero => exact absurd HA.out (by simp [spec_FirstAll.l1])
     | succ k2 =>
      have H := HA.out; clear HA
      simp only [spec_FirstAll.l1] at H
      by_cases c9 : x23_2 < (t512.length : Int)
      ·
       rw [if_pos c9] at H; have c9b0 : decide (x23_2 < (t512.length : Int)) = true := decide_eq_true c9; clear c9
       by_cases c10 : x7_2 = true
       ·
        subst c10
        rw [if_pos rfl] at H
        by_cases c11 : 0 ≤ x23_2
        ·
         rw [if_pos c11] at H; have c11b0 : decide (0 ≤ x23_2) = true := decide_eq_true c11; clear c11
         by_cases c12 : x23_2 < (t512.length : Int)
         ·
          rw [if_pos c12] at H; have c12b0 : decide (x23_2 < (t512.length : Int)) = true := decide_eq_true c12; clear c12
          by_cases c13 : x23_2 < (t515.length : Int)
          ·
           rw [if_pos c13] at H; have c13b0 : decide (x23_2 < (t515.length : Int)) = true := decide_eq_true c13; clear c13; have H' := Aside0.mk H; clear H; have p518 : 0 ≤ (x23_2 : Int) := of_decide_eq_true (by first | (with_reducible assumption) | assumption); have q518 : x23_2 < (t512.length : Int) := of_decide_eq_true (by first | (with_reducible assumption) | assumption); obtain ⟨ad518, e518, hx518_0⟩ := Kd.at_int (Kd.R_reads' HO_5.out).2.2 x23_2 p518 q518
           cases e518
           replace p518 := eq_true p518
           replace q518 := eq_true q518
           obtain ⟨Ao14, co14, eo14⟩ := Kd.R_slice HO_6.out; subst eo14
           have p519 : 0 ≤ (x23_2 : Int) := of_decide_eq_true (by first | (with_reducible assumption) | assumption); have q519 : x23_2 < (t515.length : Int) := of_decide_eq_true (by first | (with_reducible assumption) | assumption)
           obtain ⟨ad519, e519, hx519_0⟩ := Kd.at_int (Kd.R_reads' HO_6.out).2.2 x23_2 p519 q519
           cases e519
           replace p519 := eq_true p519
           replace q519 := eq_true q519
           go_wp2
           repeat (go_quiet (fail); try go_wp2)
           go_roundg k2
           case measure => have := HK1.out; have := HK2.out; omega
           case rel => exact ⟨(decide ((wrap64 ((rd t512 x23_2) + (rd t515 x23_2))) > 0)), (wrap64 (x23_2 + 1)), (by first | rfl | (simp; done) | (simp [*]; done)), (by first | rfl | (simp; done) | (simp [*]; done)), H', ⟨by have := HK1.out; have := HK2.out; omega⟩, ⟨Zr HO_5⟩, ⟨Zr HO_6⟩, ⟨Zl HB⟩⟩
          ·
           rw [if_neg c13] at H
           exact absurd H (by simp)
         ·
          rw [if_neg c12] at H
          exact absurd H (by simp)
        ·
         rw [if_neg c11] at H
         exact absurd H (by simp)
       ·
        replace c10 := Bool.eq_false_iff.mpr c10
        subst c10
        rw [if_neg Bool.false_ne_true] at H
        have H' := Aside0.mk H; clear H
        go_wp2
        repeat (go_quiet (fail); try go_wp2)
        go_roundg k2
        case measure => have := HK1.out; have := HK2.out; omega
        case rel => exact ⟨(false), (wrap64 (x23_2 + 1)), (by first | rfl | (simp; done) | (simp [*]; done)), (by first | rfl | (simp; done) | (simp [*]; done)), H', ⟨by have := HK1.out; have := HK2.out; omega⟩, ⟨Zr HO_5⟩, ⟨Zr HO_6⟩, ⟨Zl HB⟩⟩
      ·
       rw [if_neg c9] at H; have c9b0 : decide (x23_2 < (t512.length : Int)) = false := decide_eq_false c9; clear c9
       by_cases c15 : x7_2 = true
       ·
        subst c15
        rw [if_pos rfl] at H
        simp only [Option.some.injEq, Prod.mk.injEq] at H
        obtain ⟨rfl, rfl⟩ := H
        go_wp2
        repeat (go_quiet (fail); try go_wp2)
        go_ret2
        exact ⟨by first | rfl | (simp [errW_none, errW_some] <;> rfl) | (simp [*, errW_none, errW_some] <;> rfl), Zl HB⟩
       ·
        replace c15 := Bool.eq_false_iff.mpr c15
        subst c15
        rw [if_neg Bool.false_ne_true] at H
        have H' := Aside0.mk H; clear H
        go_wp2
        repeat (go_quiet (fail); try go_wp2)
        go_roundg k2
        case measure => have := HK1.out; have := HK2.out; omega
        case rel => exact ⟨(wrap64 (x4_1 + 1)), (by first | rfl | (simp; done) | (simp [*]; done)), H', ⟨by have := HK1.out; have := HK2.out; omega⟩, ⟨Zl HB⟩⟩
 ·
  replace c3 := Bool.eq_false_iff.mpr c3
  subst c3
  rw [if_neg Bool.false_ne_true] at H
  simp only [Option.some.injEq, Prod.mk.injEq] at H
  obtain ⟨rfl, rfl⟩ := H
  go_enter Try.func28, Try.ntmps28
  go_wp2_with (first | (go_at_call 30; (with_reducible refine (spec_l1In.calls a0 2 5 false _ A2.out).mono ?_); rintro e w' ⟨rfl, ⟨nd, rfl⟩⟩; (try first | exact ⟨rfl, _, World.drewN_drewN _ _ _⟩ | exact ⟨rfl, _, Eq.trans (World.drewN_drewN _ _ _) (congrArg (World.drewN _) (Nat.add_assoc _ _ _))⟩)))
  repeat (go_quiet (fail); try go_wp2)
  go_ret2
  exact ⟨by first | rfl | (simp [errW_none, errW_some] <;> rfl) | (simp [*, errW_none, errW_some] <;> rfl), Zl HB⟩

def impl_descents.l0 : Nat → List Int → List Int → Int → Option (List Int)
 | 0, _, _, _ => none
 | k + 1, x0, x3, x4 => if (wrap64 (x4 + 1)) < (x0.length : Int) then (if 0 ≤ x4 then (if x4 < (x0.length : Int) then (if 0 ≤ (wrap64 (x4 + 1)) then (if (rd x0 x4) > (rd x0 (wrap64 (x4 + 1))) then (if x3.length < 17592186044416 then (impl_descents.l0 k x0 (x3 ++ [x4]) (wrap64 (x4 + 1))) else (none)) else (impl_descents.l0 k x0 x3 (wrap64 (x4 + 1)))) else (none)) else (none)) else (none)) else (some x3)
def impl_descents.f (k : Nat) (l0 : List Int) : Option (List Int) := impl_descents.l0 k l0 (([] : List Int)) 0
theorem impl_descents.mono_l : ∀ k, (∀ y0 y1 y2, LeO (impl_descents.l0 k y0 y1 y2) (impl_descents.l0 (k + 1) y0 y1 y2))
 | 0 => fun _ _ _ r h => by simp [impl_descents.l0] at h
 | k + 1 => by
  have ih0 := impl_descents.mono_l k
  ·
   intro y0 y1 y2
   unfold impl_descents.l0
   repeat' first
   | (with_reducible exact ih0 _ _ _)
   | (with_reducible exact LeO.refl _)
   | (with_reducible exact LeO.none _)
   | (with_reducible refine LeO.ite ?_ ?_)
   | (with_reducible refine LeO.bind ?_ (fun _ => ?_))
   | exact ih0 _ _ _
   | exact LeO.none _
   | refine LeO.ite ?_ ?_
   | refine LeO.bind ?_ (fun _ => ?_)
theorem impl_descents.mono : ∀ a0 k, LeO (impl_descents.f k a0) (impl_descents.f (k + 1) a0) := by
 intro a0 k
 have ih0 := impl_descents.mono_l k
 unfold impl_descents.f
 repeat' first
   | (with_reducible exact ih0 _ _ _)
   | (with_reducible exact LeO.refl _)
   | (with_reducible exact LeO.none _)
   | (with_reducible refine LeO.ite ?_ ?_)
   | (with_reducible refine LeO.bind ?_ (fun _ => ?_))
   | exact ih0 _ _ _
   | exact LeO.none _
   | refine LeO.ite ?_ ?_
   | refine LeO.bind ?_ (fun _ => ?_)
set_option maxHeartbeats 8000000 in
set_option maxRecDepth 100000 in
theorem impl_descents.calls (k : Nat) (A0 : Option Addr) (c0 : Nat) (l0 : List Int) (r : List Int) (w : World) (hr0 : Kd.C (Kd.int .i64) w A0 l0.length l0) (hc0 : l0.length ≤ c0) (h : impl_descents.f k l0 = some r) :
  Calls Try.prog 72 #[.slice A0 l0.length c0] w fun e w' => ∃ v0_ : Value, e = .returned (v0_) ∧ Kd.R (Kd.int .i64) 3 w' w.heap.size (fun _ => True) v0_ r ∧ Below w.heap.size w w' := by
 have HR0 := Aside0.mk hr0; have HC0 := Aside0.mk hc0; clear hr0 hc0; have HB := Zm (Below.refl w.heap.size w); have H : (impl_descents.l0 k l0 (([] : List Int)) 0) = some r := h; clear h; obtain ⟨y330, hy330⟩ : ∃ y_ : List Int, y_ = (([] : List Int)) := ⟨_, rfl⟩; (replace H : (impl_descents.l0 k l0 y330 0) = some r := by first | (rw [hy330]; with_reducible exact H) | (have H2_ := (Option.bind_some _ _).symm.trans H; rw [hy330]; with_reducible exact H2_) | (have H2_ := (Option.bind_some _ _).symm.trans H; with_reducible exact H2_) | with_reducible exact H | (rw [hy330]; exact H) | exact H)
 have Ny330 := Aside0.mk hy330; clear hy330; have H' := Aside0.mk H; clear H
 go_enter Try.func72, Try.ntmps72
 go_wp2_with (first | ((with_reducible refine gate_dst (N := 5) rfl ?_); refine Kd.R_lit (Kd.int .i64) _ 3 ?hg (N := 5) ?hd (xs := ([] : List Int)) (inner := []) (ok := fun _ => True) (okp := fun _ => True) ?hr ?hp (fun _ hk => hk) trivial (Below.refl _ _) (Nat.le_refl _) (by simp) ?_; (case hd => rfl); (case hg => rfl); (case hr => first | (go_simp; done) | (go_simp; rfl)); (case hp => exact (Reps.none _ _)); intro v331 w2 ho3 hb hg_ hnew_; clear hg_ hnew_; (first | rw [← Ny330.out] at ho3 | (simp only [Int.reduceToNat] at ho3; rw [← Ny330.out] at ho3)); have HO332 := Zj ho3 HB; replace HB := Zh HB hb; clear hb ho3))
 repeat (go_quiet (first | ((with_reducible refine gate_dst (N := 5) rfl ?_); refine Kd.R_lit (Kd.int .i64) _ 3 ?hg (N := 5) ?hd (xs := ([] : List Int)) (inner := []) (ok := fun _ => True) (okp := fun _ => True) ?hr ?hp (fun _ hk => hk) trivial (Below.refl _ _) (Nat.le_refl _) (by simp) ?_; (case hd => rfl); (case hg => rfl); (case hr => first | (go_simp; done) | (go_simp; rfl)); (case hp => exact (Reps.none _ _)); intro v331 w2 ho3 hb hg_ hnew_; clear hg_ hnew_; (first | rw [← Ny330.out] at ho3 | (simp only [Int.reduceToNat] at ho3; rw [← Ny330.out] at ho3)); have HO332 := Zj ho3 HB; replace HB := Zh HB hb; clear hb ho3)); try go_wp2_with (first | ((with_reducible refine gate_dst (N := 5) rfl ?_); refine Kd.R_lit (Kd.int .i64) _ 3 ?hg (N := 5) ?hd (xs := ([] : List Int)) (inner := []) (ok := fun _ => True) (okp := fun _ => True) ?hr ?hp (fun _ hk => hk) trivial (Below.refl _ _) (Nat.le_refl _) (by simp) ?_; (case hd => rfl); (case hg => rfl); (case hr => first | (go_simp; done) | (go_simp; rfl)); (case hp => exact (Reps.none _ _)); intro v331 w2 ho3 hb hg_ hnew_; clear hg_ hnew_; (first | rw [← Ny330.out] at ho3 | (simp only [Int.reduceToNat] at ho3; rw [← Ny330.out] at ho3)); have HO332 := Zj ho3 HB; replace HB := Zh HB hb; clear hb ho3)))
 go_loopg [3, 4] k (fun kq v3 v4 w' => ∃ (x3_1 : List Int) (x4_1 : Int), v4 = .int .i64 x4_1 ∧ Aside0 (impl_descents.l0 kq l0 x3_1 x4_1 = some r) ∧ Aside0 (kq ≤ k) ∧ Aside0 (Kd.R (Kd.int .i64) 3 w' w.heap.size (fun _ => True) v3 x3_1) ∧ Aside0 (Below w.heap.size w w'))
 case atStart => exact ⟨(y330), (0), (by first | rfl | (simp; done) | (simp [*]; done)), H', ⟨Nat.le_refl _⟩, ⟨Zr HO332⟩, ⟨Zl HB⟩⟩
 case round =>
  (clear H'; (try clear p2)); obtain ⟨x3_1, x4_1, rfl, HA, HK1, HO_3, HB⟩ := hrel
  cases gk with
  | zero => exact absurd HA.out (by simp [impl_descents.l0])
  | succ k1 =>
   have H := HA.out; clear HA
   simp only [impl_descents.l0] at H
   by_cases c4 : (wrap64 (x4_1 + 1)) < (l0.length : Int)
   ·
    rw [if_pos c4] at H; have c4b0 : decide ((wrap64 (x4_1 + 1)) < (l0.length : Int)) = true := decide_eq_true c4; clear c4
    by_cases c5 : 0 ≤ x4_1
    ·
     rw [if_pos c5] at H; have c5b0 : decide (0 ≤ x4_1) = true := decide_eq_true c5; clear c5
     by_cases c6 : x4_1 < (l0.length : Int)
     ·
      rw [if_pos c6] at H; have c6b0 : decide (x4_1 < (l0.length : Int)) = true := decide_eq_true c6; clear c6; obtain ⟨ji7, hji7⟩ : ∃ j_ : Int, (wrap64 (x4_1 + 1)) = j_ := ⟨_, rfl⟩; (replace H : (if 0 ≤ (ji7) then (if (rd l0 x4_1) > (rd l0 (ji7)) then (if x3_1.length < 17592186044416 then (impl_descents.l0 k1 l0 (x3_1 ++ [x4_1]) ji7) else (none)) else (impl_descents.l0 k1 l0 x3_1 ji7)) else (none)) = some r := by first | (rw [hji7] at H; exact H) | (simp only [hji7] at H ⊢; exact H))
      (try rw [hji7] at c4b0)
      have hji7w : (IntKind.i64.wrap (x4_1 + 1)) = ji7 := (i64_w _).trans hji7
      by_cases c8 : 0 ≤ (ji7)
      ·
       rw [if_pos c8] at H; have c8b0 : decide (0 ≤ (ji7)) = true := decide_eq_true c8; clear c8
       by_cases c9 : (rd l0 x4_1) > (rd l0 (ji7))
       ·
        rw [if_pos c9] at H; have c9b0 : decide ((rd l0 (ji7)) < (rd l0 x4_1)) = true := decide_eq_true c9; clear c9
        by_cases c10 : x3_1.length < 17592186044416
        ·
         rw [if_pos c10] at H
         have LMc10 := Aside0.mk c10; clear c10
         obtain ⟨y335, hy335⟩ : ∃ y_ : List Int, y_ = (x3_1 ++ [x4_1]) := ⟨_, rfl⟩; (replace H : (impl_descents.l0 k1 l0 y335 ji7) = some r := by first | (rw [hy335]; with_reducible exact H) | (have H2_ := (Option.bind_some _ _).symm.trans H; rw [hy335]; with_reducible exact H2_) | (have H2_ := (Option.bind_some _ _).symm.trans H; with_reducible exact H2_) | with_reducible exact H | (rw [hy335]; exact H) | exact H)
         have Ny335 := Aside0.mk hy335; clear hy335; have H' := Aside0.mk H; clear H; have p333 : 0 ≤ (x4_1 : Int) := of_decide_eq_true (by first | (with_reducible assumption) | assumption); have q333 : x4_1 < (l0.length : Int) := of_decide_eq_true (by first | (with_reducible assumption) | assumption)
         obtain ⟨ad333, e333, hx333_0⟩ := Kd.at_int HR0.out x4_1 p333 q333
         cases e333
         replace hx333_0 := (HB.out.cell (World.block_lt_of_cell? w _ hx333_0)).trans hx333_0
         replace p333 := eq_true p333
         replace q333 := eq_true q333
         have p334 : 0 ≤ ((ji7) : Int) := of_decide_eq_true (by first | (with_reducible assumption) | assumption); have q334 : (ji7) < (l0.length : Int) := of_decide_eq_true (by first | (with_reducible assumption) | assumption)
         obtain ⟨ad334, e334, hx334_0⟩ := Kd.at_int HR0.out (ji7) p334 q334; obtain rfl : ad333 = ad334 := (by injection e334)
         replace hx334_0 := (HB.out.cell (World.block_lt_of_cell? w _ hx334_0)).trans hx334_0
         replace p334 := eq_true p334
         replace q334 := eq_true q334
         go_wp2_with (first | ((with_reducible refine gate_builtin (b := .append) (xs := #[.tmp 23, .tmp 25]) rfl ?_); at_builtin; refine Kd.R_append (Kd.int .i64) (w0 := w) w.heap.size rfl (.tmp 23) (.tmp 25) 24 3 (.int .i64 0) 8 rfl Try.underlying24 info3 rfl (by decide) (by omega) u3 x3_1 x4_1 [.int .i64 x4_1] (fun _ => True) (fun _ => False) rfl rfl ?aP (fun _ hk => hk.elim) ?aF ?aO ?aB ?aS ?aL ?_; (case aP => exact rfl); (case aB => exact (Zl HB)); (case aF => exact (fun _ _ => trivial)); (case aO => exact (Zr HO_3)); (case aS => exact (below_size (Zl HB))); (case aL => have := LMc10.out; omega); intro v336 w11 ho hb hg hat; rw [← Ny335.out] at ho; replace HB := Zm (hb); have HO337 := Zm (ho); clear HO_3 ho hb hg hat))
         repeat (go_quiet (first | ((with_reducible refine gate_builtin (b := .append) (xs := #[.tmp 23, .tmp 25]) rfl ?_); at_builtin; refine Kd.R_append (Kd.int .i64) (w0 := w) w.heap.size rfl (.tmp 23) (.tmp 25) 24 3 (.int .i64 0) 8 rfl Try.underlying24 info3 rfl (by decide) (by omega) u3 x3_1 x4_1 [.int .i64 x4_1] (fun _ => True) (fun _ => False) rfl rfl ?aP (fun _ hk => hk.elim) ?aF ?aO ?aB ?aS ?aL ?_; (case aP => exact rfl); (case aB => exact (Zl HB)); (case aF => exact (fun _ _ => trivial)); (case aO => exact (Zr HO_3)); (case aS => exact (below_size (Zl HB))); (case aL => have := LMc10.out; omega); intro v336 w11 ho hb hg hat; rw [← Ny335.out] at ho; replace HB := Zm (hb); have HO337 := Zm (ho); clear HO_3 ho hb hg hat)); try go_wp2_with (first | ((with_reducible refine gate_builtin (b := .append) (xs := #[.tmp 23, .tmp 25]) rfl ?_); at_builtin; refine Kd.R_append (Kd.int .i64) (w0 := w) w.heap.size rfl (.tmp 23) (.tmp 25) 24 3 (.int .i64 0) 8 rfl Try.underlying24 info3 rfl (by decide) (by omega) u3 x3_1 x4_1 [.int .i64 x4_1] (fun _ => True) (fun _ => False) rfl rfl ?aP (fun _ hk => hk.elim) ?aF ?aO ?aB ?aS ?aL ?_; (case aP => exact rfl); (case aB => exact (Zl HB)); (case aF => exact (fun _ _ => trivial)); (case aO => exact (Zr HO_3)); (case aS => exact (below_size (Zl HB))); (case aL => have := LMc10.out; omega); intro v336 w11 ho hb hg hat; rw [← Ny335.out] at ho; replace HB := Zm (hb); have HO337 := Zm (ho); clear HO_3 ho hb hg hat)))
         go_roundg k1
         case measure => have := HK1.out; omega
         case rel => exact ⟨(y335), (ji7), (by first | rfl | (simp; done) | (simp only [← hji7] <;> (first | rfl | simp)) | (simp [*]; done)), H', ⟨by have := HK1.out; omega⟩, ⟨Zr HO337⟩, ⟨Zl HB⟩⟩
        ·
         rw [if_neg c10] at H
         exact absurd H (by simp)
       ·
        rw [if_neg c9] at H; have c9b0 : decide ((rd l0 (ji7)) < (rd l0 x4_1)) = false := decide_eq_false c9; clear c9; have H' := Aside0.mk H; clear H; have p333 : 0 ≤ (x4_1 : Int) := of_decide_eq_true (by first | (with_reducible assumption) | assumption); have q333 : x4_1 < (l0.length : Int) := of_decide_eq_true (by first | (with_reducible assumption) | assumption); obtain ⟨ad333, e333, hx333_0⟩ := Kd.at_int HR0.out x4_1 p333 q333
        cases e333
        replace hx333_0 := (HB.out.cell (World.block_lt_of_cell? w _ hx333_0)).trans hx333_0
        replace p333 := eq_true p333
        replace q333 := eq_true q333
        have p334 : 0 ≤ ((ji7) : Int) := of_decide_eq_true (by first | (with_reducible assumption) | assumption); have q334 : (ji7) < (l0.length : Int) := of_decide_eq_true (by first | (with_reducible assumption) | assumption)
        obtain ⟨ad334, e334, hx334_0⟩ := Kd.at_int HR0.out (ji7) p334 q334; obtain rfl : ad333 = ad334 := (by injection e334)
        replace hx334_0 := (HB.out.cell (World.block_lt_of_cell? w _ hx334_0)).trans hx334_0
        replace p334 := eq_true p334
        replace q334 := eq_true q334
        go_wp2
        repeat (go_quiet (fail); try go_wp2)
        go_roundg k1
        case measure => have := HK1.out; omega
        case rel => exact ⟨(x3_1), (ji7), (by first | rfl | (simp; done) | (simp only [← hji7] <;> (first | rfl | simp)) | (simp [*]; done)), H', ⟨by have := HK1.out; omega⟩, ⟨Zr HO_3⟩, ⟨Zl HB⟩⟩
      ·
       rw [if_neg c8] at H
       exact absurd H (by simp)
     ·
      rw [if_neg c6] at H
      exact absurd H (by simp)
    ·
     rw [if_neg c5] at H
     exact absurd H (by simp)
   ·
    rw [if_neg c4] at H; have c4b0 : decide ((wrap64 (x4_1 + 1)) < (l0.length : Int)) = false := decide_eq_false c4; clear c4; obtain rfl := Option.some.inj H
    go_wp2
    repeat (go_quiet (fail); try go_wp2)
    go_ret
    exact ⟨_, by first | rfl | (simp [errW_none, errW_some] <;> rfl) | (simp [*, errW_none, errW_some] <;> rfl), Zr HO_3, Zl HB⟩

def ctNums (bs : List UInt8) : List Int := bs.map fun b => (b.toNat : Int) - 48
def ctL (rec_ : List Int → Option (Int × Nat)) (l : List Int) : List Int → Int → Nat → Option (Int × Nat)
 | [], n, m => some (n, m)
 | r :: ds, n, m => (impl_exchanged.f l r).bind fun q => (rec_ q).bind fun x => ctL rec_ l ds (wrap64 (n + x.1)) (m + x.2)
def ctF : Nat → List Int → Option (Int × Nat)
 | 0, _ => none
 | k + 1, l => (impl_orderKey.f k l).bind fun q => (impl_descents.f k l).bind fun ds => if ctNums q.data.toList = l ∧ q.size ≤ 1000 ∧ ds.length ≤ 1000 then (ctL (fun z => ctF k z) l ds 0 0).bind fun x => if 0 ≤ (if ds.length = 0 then 1 else x.1) ∧ (if ds.length = 0 then 1 else x.1) ≤ 1000000 then some ((if ds.length = 0 then 1 else x.1), x.2 + 1) else none else none
theorem ctL_mono {f g : List Int → Option (Int × Nat)} (h : ∀ z, LeO (f z) (g z)) (l : List Int) : ∀ (ds : List Int) (n : Int) (m : Nat), LeO (ctL f l ds n m) (ctL g l ds n m)
 | [], n, m => LeO.refl _
 | r :: ds, n, m => by
  unfold ctL
  exact LeO.bind (LeO.refl _) fun q => LeO.bind (h q) fun x => ctL_mono h l ds _ _
theorem ctF_mono : ∀ (k : Nat) (l : List Int), LeO (ctF k l) (ctF (k + 1) l)
 | 0, l => by unfold ctF; exact LeO.none _
 | k + 1, l => by
  have ih := ctF_mono k
  rw [ctF, ctF]
  exact LeO.bind (impl_orderKey.mono _ _) fun q => LeO.bind (impl_descents.mono _ _) fun ds => LeO.ite (LeO.bind (ctL_mono ih l ds 0 0) fun x => LeO.refl _) (LeO.refl _)
theorem ctF_le {k K : Nat} (h : k ≤ K) (l : List Int) {x : Int × Nat} (e : ctF k l = some x) : ctF K l = some x := by
 obtain ⟨d, rfl⟩ := Nat.exists_eq_add_of_le h
 induction d with
 | zero => exact e
 | succ d ih => exact ctF_mono _ _ _ (ih (Nat.le_add_right _ _))
theorem ctF_one {k K : Nat} {l : List Int} {x y : Int × Nat} (e : ctF k l = some x) (e' : ctF K l = some y) : x = y := by
 have h1 := ctF_le (Nat.le_max_left k K) l e
 have h2 := ctF_le (Nat.le_max_right k K) l e'
 exact Option.some.inj (h1.symm.trans h2)
def CtGood (C : List UInt8 → Int) (h : List UInt8 → Bool) : Prop := ∀ bs, h bs = true → ∃ k n, ctF k (ctNums bs) = some (C bs, n)
theorem CtGood.put {C : List UInt8 → Int} {h : List UInt8 → Bool} (g : CtGood C h) {bs : List UInt8} {k n : Nat} {v : Int} (e : ctF k (ctNums bs) = some (v, n)) :
  CtGood (fun x => if x = bs then v else C x) (fun x => if x = bs then true else h x) := by
 intro x hx
 by_cases e1 : x = bs
 ·
  subst e1
  exact ⟨k, n, by simpa using e⟩
 ·
  simp only [if_neg e1] at hx ⊢
  exact g x hx
theorem ct_apart {w : World} {P : Program} {k : TypeId} {R : Value → Option (DataW Unit × List MemPlace)} {b m n : Nat} {D : DataW Unit} {A : Option Addr} {xs : List Int} (hC : Kd.C (Kd.int .i64) w A n xs) (ho : w.ownsMap P k R b m D) : ∀ ad, A = some ad → 0 < n → ad.block ≠ b := by
 intro ad e hn hb
 have hl := Kd.C_len hC
 obtain ⟨ad', e', hx⟩ := Kd.at_int (hl ▸ hC) 0 (by omega) (by omega)
 obtain ⟨es, clock, h1, _⟩ := ho
 rw [e] at e'
 obtain rfl := Option.some.inj e'
 have h2 : (ad.add (Int.toNat 0)).block = b := by
  rw [← hb]
  first | rfl | (unfold Addr.add; split <;> rfl)
 simp only [World.cell?, h2, h1] at hx
 exact absurd hx (by simp)
theorem ct_keep {w W : World} {g : Nat} {A : Option Addr} {n : Nat} {xs : List Int} (h : Kd.C (Kd.int .i64) w A n xs) (hk : KeepBut w W g none) (hf : ∀ ad, A = some ad → 0 < n → ad.block ≠ g) : Kd.C (Kd.int .i64) W A n xs := Kd.C_keep 0 h hk hf
theorem ct_keep_grown {w w1 : World} {b : Nat} (h : w.grownBy w1 (some b)) : KeepBut w w1 b none := ⟨h.size, fun i hi hg _ => h.block i hi (by simpa using hg)⟩
theorem ct_wf {v : Int} (h1 : 0 ≤ v) (h2 : v ≤ 1000000) : (Lit.int .i64 v).wf = true := by
 have : wrap64 v = v := by unfold wrap64; omega
 rw [← this]
 exact wrap64_wf _
theorem ct_low {B B' : Nat} {w w' : World} (h : Below B w w') (hle : B' ≤ B) : Below B' w w' := ⟨h.os, h.tape, h.output, h.size, fun k hk => h.block k (Nat.lt_of_lt_of_le hk hle)⟩
theorem ctL_ge {f : List Int → Option (Int × Nat)} (l : List Int) : ∀ (ds : List Int) (n : Int) (m : Nat) (n0 : Int) (m0 : Nat), ctL f l ds n m = some (n0, m0) → m ≤ m0
 | [], n, m, n0, m0, e => by unfold ctL at e; simp only [Option.some.injEq, Prod.mk.injEq] at e; omega
 | r :: ds, n, m, n0, m0, e => by
  unfold ctL at e
  obtain ⟨q, e1, e⟩ := Option.bind_eq_some_iff.mp e
  obtain ⟨x, e2, e⟩ := Option.bind_eq_some_iff.mp e
  have := ctL_ge l ds _ _ _ _ e
  omega
set_option maxHeartbeats 8000000 in
set_option maxRecDepth 100000 in
theorem impl_counter_count.calls : ∀ (k : Nat) (l : List Int) (A : Option Addr) (c b m n : Nat) (D : DataW Unit) (C : List UInt8 → Int) (h : List UInt8 → Bool) (v : Int) (w : World), Kd.C (Kd.int .i64) w A l.length l → l.length ≤ c → w.ownsMap Try.prog 9 (plainElem Try.prog 3) b m D → MapReads D C h → CtGood C h → m + n ≤ 1000000 → ctF k l = some (v, n) →
  Calls Try.prog 49 #[.map (some b), .slice A l.length c] w fun e w' => ∃ (m' : Nat) (D' : DataW Unit) (C' : List UInt8 → Int) (h' : List UInt8 → Bool), e = .returned (.int .i64 v) ∧ w'.ownsMap Try.prog 9 (plainElem Try.prog 3) b m' D' ∧ MapReads D' C' h' ∧ CtGood C' h' ∧ m' ≤ m + n ∧ KeepBut w w' b none ∧ Below b w w'
 | 0, l, A, c, b, m, n, D, C, h, v, w, hr, hc, ho, hrd, hg, hb, e => by simp [ctF] at e
 | k + 1, l, A, c, b, m, n, D, C, h, v, w, hr, hc, ho, hrd, hg, hb, e => by
  have ih := impl_counter_count.calls k
  have HE := Aside0.mk e
  rw [ctF] at e
  obtain ⟨q, e1, e⟩ := Option.bind_eq_some_iff.mp e
  obtain ⟨ds, e2, e⟩ := Option.bind_eq_some_iff.mp e
  by_cases hq : ctNums q.data.toList = l ∧ q.size ≤ 1000 ∧ ds.length ≤ 1000
  ·
   rw [if_pos hq] at e
   obtain ⟨⟨n0, m0⟩, e3, e⟩ := Option.bind_eq_some_iff.mp e
   by_cases hv : 0 ≤ (if ds.length = 0 then 1 else n0) ∧ (if ds.length = 0 then 1 else n0) ≤ 1000000
   ·
    rw [if_pos hv] at e
    simp only [Option.some.injEq, Prod.mk.injEq] at e
    obtain ⟨ev, en⟩ := e
    rw [ev] at hv
    obtain ⟨hq1, hq2, hq3⟩ := hq
    have HE' := Aside0.mk (show ctF (k + 1) (ctNums q.data.toList) = some (v, n) by rw [hq1]; exact HE.out)
    clear hq1 HE
    have HW := Aside0.mk (ct_wf hv.1 hv.2)
    have HR := Aside0.mk hr
    have HC := Aside0.mk hc
    have HO := Aside0.mk ho
    have HRd := Aside0.mk hrd
    have HG := Aside0.mk hg
    have A1 := Aside0.mk e1
    have A2 := Aside0.mk e2
    have A3 := Aside0.mk e3
    have HZ := Aside0.mk (show q.size ≤ maxLen by unfold maxLen; omega)
    clear hr hc ho hrd hg e1 e2 e3 hv
    by_cases hh : h q.data.toList = true
    ·
     have HV := Aside0.mk (show C q.data.toList = v by
      obtain ⟨K, n', hK⟩ := HG.out _ hh
      exact (Prod.mk.inj (ctF_one hK HE'.out)).1)
     go_enter Try.func49, Try.ntmps49
     go_wp2_with (first
      | (go_at_call 37; refine (impl_orderKey.calls k _ _ l q _ HR.out HC.out A1.out).mono ?_; rintro e w4 ⟨rfl, hb4⟩; have HB4 := Aside0.mk hb4; have HO4 := Aside0.mk (md_kept HO.out (hb4.block b HO.out.lt)); clear hb4)
      | (at_lookup; refine wpList_lookup_own_ok_int _ rfl _ _ 65 rfl 9 3 .i64 md_law Try.underlying65 Try.underlying3 (md_zero _) b m D rfl HO4.out _ _ rfl (Go.WideMaps.keyOf_string_mk Try.underlying9 HZ.out) ?_; intro c2 hat2 hwc2; have hc2 : c2 = v := (by have h_ := HRd.out.2.1 q.data.toList; rw [hat2] at h_; rw [← HV.out]; simpa using h_); rw [HRd.out.2.2, hh, hc2]; clear hat2 hwc2 hc2))
     go_ret
     exact ⟨m, D, C, h, rfl, HO4.out, HRd.out, HG.out, by omega, KeepBut.of_below HB4.out b none, ct_low HB4.out (Nat.le_of_lt HO.out.lt)⟩
    ·
     replace hh := Bool.eq_false_iff.mpr hh
     have hm0 : m0 + 1 = n := en
     by_cases hd0 : ds.length = 0
     all_goals
      have HD0 := Aside0.mk hd0
      clear hd0
      go_enter Try.func49, Try.ntmps49
      go_wp2_with (first
       | (go_at_call 37; refine (impl_orderKey.calls k _ _ l q _ HR.out HC.out A1.out).mono ?_; rintro e w4 ⟨rfl, hb4⟩; have HB4 := Aside0.mk hb4; have HO4 := Aside0.mk (md_kept HO.out (hb4.block b HO.out.lt)); have HR4 := Aside0.mk (Kd.C_below HR.out hb4); clear hb4)
       | (at_lookup; refine wpList_lookup_own_ok_int _ rfl _ _ 65 rfl 9 3 .i64 md_law Try.underlying65 Try.underlying3 (md_zero _) b m D rfl HO4.out _ _ rfl (Go.WideMaps.keyOf_string_mk Try.underlying9 HZ.out) ?_; intro c2 hat2 hwc2; rw [HRd.out.2.2, hh]; clear hat2 hwc2)
       | (go_at_call 72; refine (impl_descents.calls k _ _ l ds _ HR4.out HC.out A2.out).mono ?_; rintro e w5 ⟨v5, rfl, ho5, hb5⟩; obtain ⟨A5, c5, rfl, hc5, hr5⟩ := Kd.R_reads ho5; have HB5 := Aside0.mk (below_step HB4.out hb5); have HO5 := Aside0.mk (md_kept HO4.out (hb5.block b HO4.out.lt)); have HR5 := Aside0.mk (Kd.C_below HR4.out hb5); have HD5 := Aside0.mk hr5; have HK5 := Aside0.mk (KeepBut.of_below HB5.out b none); have HL5 := Aside0.mk (ct_low HB5.out (Nat.le_of_lt HO.out.lt)); clear ho5 hb5 hr5))
      go_loopg [9, 26] ds.length (fun gg v9 v26 wr => ∃ (i mi ui : Nat) (ni : Int) (Di : DataW Unit) (Ci : List UInt8 → Int) (hi : List UInt8 → Bool), v9 = .int .i64 ni ∧ v26 = .int .i64 (i : Int) ∧ i ≤ ds.length ∧ ds.length - i ≤ gg ∧ mi ≤ m + ui ∧ Aside0 (ctL (fun z => ctF k z) l (ds.drop i) ni ui = some (n0, m0)) ∧ Aside0 (Kd.C (Kd.int .i64) wr A l.length l) ∧ Aside0 (Kd.C (Kd.int .i64) wr A5 ds.length ds) ∧ Aside0 (wr.ownsMap Try.prog 9 (plainElem Try.prog 3) b mi Di) ∧ Aside0 (MapReads Di Ci hi) ∧ Aside0 (CtGood Ci hi) ∧ Aside0 (KeepBut w wr b none) ∧ Aside0 (Below b w wr))
      case atStart => exact ⟨0, m, 0, 0, D, C, h, rfl, rfl, Nat.zero_le _, by omega, by omega, A3, HR5, HD5, HO5, HRd, HG, HK5, HL5⟩
      case round =>
       clear HR HR4 HR5 HD5 HO HO4 HO5 HB4 HB5 HK5 HL5 A3
       obtain ⟨i, mi, ui, ni, Di, Ci, hi, rfl, rfl, hil, hgi, hmi, A6, HR6, HD6, HO6, HRd6, HG6, HK6, HL6⟩ := hrel
       by_cases hlt : i < ds.length
       ·
        have h6 := A6.out
        rw [List.drop_eq_getElem_cons hlt, ctL] at h6
        obtain ⟨z, e7, h6⟩ := Option.bind_eq_some_iff.mp h6
        obtain ⟨⟨v8, n8⟩, e8, h6⟩ := Option.bind_eq_some_iff.mp h6
        have hge := ctL_ge l _ _ _ _ _ h6
        simp only at hge h6
        have hrd_ : ds[i] = rd ds (i : Int) := by simp [rd, hlt]
        rw [hrd_] at e7
        have A7 := Aside0.mk e7
        have A8 := Aside0.mk (show ctF k z = some (v8, n8) from e8)
        have A9 := Aside0.mk h6
        have hi1w : IntKind.i64.wrap ((i : Int) + 1) = ((i + 1 : Nat) : Int) := by rw [i64_w]; unfold wrap64; omega
        have p1 : 0 ≤ (i : Int) := by omega
        have q1 : (i : Int) < (ds.length : Int) := by omega
        obtain ⟨ad, e9, hx9⟩ := Kd.at_int HD6.out (i : Int) p1 q1
        cases e9
        rw [Int.toNat_natCast] at hx9
        replace p1 := eq_true p1
        replace q1 := eq_true q1
        clear e7 e8 h6 hrd_ A6
        go_wp2_with (first
         | (go_at_call 73; refine (impl_exchanged.calls _ _ l _ z _ HR6.out HC.out A7.out).mono ?_; rintro e w7 ⟨v7, rfl, ho7, hb7⟩; obtain ⟨A10, c7, rfl, hc7, hr7⟩ := Kd.R_reads ho7; have HO7 := Aside0.mk (md_kept HO6.out (hb7.block b HO6.out.lt)); have HR7 := Aside0.mk (Kd.C_below HR6.out hb7); have HD7 := Aside0.mk (Kd.C_below HD6.out hb7); have HZ7 := Aside0.mk hr7; have HK7 := Aside0.mk (KeepBut.trans HK6.out (KeepBut.of_below hb7 b none) (.inl rfl)); have HL7 := Aside0.mk (HL6.out.trans (ct_low hb7 (Nat.le_of_lt HO6.out.lt))); clear ho7 hb7 hr7)
         | (go_at_call 49; refine (ih z _ _ b mi n8 Di Ci hi v8 _ HZ7.out hc7 HO7.out HRd6.out HG6.out (by omega) A8.out).mono ?_; rintro e w8 ⟨m8, D8, C8, h8, rfl, ho8, hrd8, hg8, hm8, hk8, hl8⟩; have HL8 := Aside0.mk (HL7.out.trans hl8); have HO8 := Aside0.mk ho8; have HRd8 := Aside0.mk hrd8; have HG8 := Aside0.mk hg8; have HR8 := Aside0.mk (ct_keep HR7.out hk8 (ct_apart HR7.out HO7.out)); have HD8 := Aside0.mk (ct_keep HD7.out hk8 (ct_apart HD7.out HO7.out)); have HK8 := Aside0.mk (KeepBut.trans HK7.out hk8 (.inl rfl)); clear ho8 hrd8 hg8 hk8 hl8))
        go_roundg (ds.length - (i + 1))
        case measure => omega
        case rel => exact ⟨i + 1, m8, ui + n8, wrap64 (ni + v8), D8, C8, h8, by go_num, by go_num, by omega, by omega, by omega, A9, HR8, HD8, HO8, HRd8, HG8, HK8, HL8⟩
       ·
        have hie : i = ds.length := by omega
        subst hie
        have hd0 := HD0.out
        have h6 := A6.out
        rw [List.drop_length, ctL] at h6
        simp only [Option.some.injEq, Prod.mk.injEq] at h6
        obtain ⟨rfl, rfl⟩ := h6
        have HBND := Aside0.mk (show mi < maxLen by unfold maxLen; omega)
        have hdz : ((ds.length : Int) == 0) = decide (ds.length = 0) := by by_cases e_ : ds.length = 0 <;> simp [e_]
        first
         | rw [decide_eq_true hd0] at hdz
         | rw [decide_eq_false hd0] at hdz
        first
         | rw [if_pos hd0] at ev
         | rw [if_neg hd0] at ev
        subst ev
        go_wp2_with (first
         | (at_mapUpdate; refine wpList_mapUpdate_own _ rfl _ _ _ 65 rfl 9 3 md_law Try.underlying65 _ b mi Di rfl HO6.out HBND.out _ _ _ rfl rfl (Go.WideMaps.keyOf_string_mk Try.underlying9 HZ.out) _ [] (plainElem_int Try.underlying3 HW.out) ?_; intro wD hown4 hgr4; have HO9 := Aside0.mk hown4; have HK9 := Aside0.mk (KeepBut.trans HK6.out (ct_keep_grown hgr4) (.inl rfl)); have HL9 := Aside0.mk (HL6.out.grown hgr4 (Nat.le_of_lt HO6.out.lt) (fun j hj => by cases hj; exact Nat.le_refl _)); clear hown4 hgr4))
        go_ret
        exact ⟨mi + 1, _, _, _, rfl, HO9.out, HRd6.out.put q.data.toList _, HG6.out.put HE'.out, by omega, HK9.out, HL9.out⟩
   ·
    rw [if_neg hv] at e
    exact absurd e (by simp)
  ·
   rw [if_neg hq] at e
   exact absurd e (by simp)

def impl_CountLeast.f (k : Nat) (l0 : List Int) : Option (Int × Bool) :=
  (impl_isCounted.f k l0).bind fun t1 => if t1 = true then ((ctF k l0).bind fun x => if x.2 ≤ 1000000 then some (x.1, true) else none) else some (0, false)
set_option maxHeartbeats 8000000 in
set_option maxRecDepth 100000 in
theorem impl_CountLeast.calls (k : Nat) (A0 : Option Addr) (c0 : Nat) (l0 : List Int) (r1 : Int) (r2 : Bool) (w : World) (hr0 : Kd.C (Kd.int .i64) w A0 l0.length l0) (hc0 : l0.length ≤ c0) (h : impl_CountLeast.f k l0 = some (r1, r2)) :
    Calls Try.prog 12 #[.slice A0 l0.length c0] w fun e w' => e = .returned (.tuple #[.int .i64 r1, .bool r2]) ∧ Below w.heap.size w w' := by
  have HR := Aside0.mk hr0
  have HC := Aside0.mk hc0
  clear hr0 hc0
  unfold impl_CountLeast.f at h
  obtain ⟨t1, e1, h⟩ := Option.bind_eq_some_iff.mp h
  have A1 := Aside0.mk e1
  clear e1
  cases t1 with
  | false =>
    rw [if_neg (by decide)] at h
    simp only [Option.some.injEq, Prod.mk.injEq] at h
    obtain ⟨rfl, rfl⟩ := h
    go_enter Try.func12, Try.ntmps12
    go_wp2_with (first | (go_at_call 48; refine (impl_isCounted.calls k _ _ l0 false _ HR.out HC.out A1.out).mono ?_; rintro e w1 ⟨rfl, hd1⟩; have HB1 := Aside0.mk (show Below w.heap.size w w1 by obtain ⟨nd, rfl⟩ := hd1; exact pw_below_drewN (Below.refl _ _) nd); clear hd1))
    go_ret2
    exact ⟨rfl, HB1.out⟩
  | true =>
    rw [if_pos rfl] at h
    obtain ⟨⟨v, n⟩, e2, h⟩ := Option.bind_eq_some_iff.mp h
    by_cases hn : n ≤ 1000000
    · simp only [if_pos hn] at h
      simp only [Option.some.injEq, Prod.mk.injEq] at h
      obtain ⟨rfl, rfl⟩ := h
      have A2 := Aside0.mk e2
      clear e2
      have hmm := @run_makeMap Try.prog
      go_enter Try.func12, Try.ntmps12
      go_wp2_with (first
        | (go_at_call 48; refine (impl_isCounted.calls k _ _ l0 true _ HR.out HC.out A1.out).mono ?_; rintro e w1 ⟨rfl, hd1⟩; have HB1 := Aside0.mk (show Below w.heap.size w w1 by obtain ⟨nd, rfl⟩ := hd1; exact pw_below_drewN (Below.refl _ _) nd); have HR1 := Aside0.mk (Kd.C_alloc (Kd.C_below HR.out HB1.out) (.map #[] 0)); have HM1 := Aside0.mk (World.ownsMap_made (H := Unit) w1 Try.prog 9 (plainElem Try.prog 3)); clear hd1)
        | (go_at_call 49; refine (impl_counter_count.calls k l0 _ _ w1.heap.size 0 n (.map []) (fun _ => 0) (fun _ => false) v _ HR1.out HC.out HM1.out MapReads.empty (fun bs hb => absurd hb (by simp)) (by omega) A2.out).mono ?_; rintro e w3 ⟨m', D', C', h', rfl, _, _, _, _, _, hl3⟩; have HB3 := Aside0.mk (show Below w.heap.size w w3 from (below_alloc HB1.out (.map #[] 0)).trans (ct_low hl3 HB1.out.size)); clear hl3))
      go_ret2
      exact ⟨rfl, HB3.out⟩
    · simp only [if_neg hn] at h
      exact absurd h (by simp)

theorem eqA30 (d : Nat) (w : World) (x0 y0 : Int) (x1 y1 : Int) :
  (Op.equalIn (d + 2) 30 (.agg #[.int .i64 x0, .int .i64 x1]) (.agg #[.int .i64 y0, .int .i64 y1])).run Try.prog w = .ok (x0 == y0 && (x1 == y1)) w := by
 refine eqA_of Try.underlying30 (by kernel_rfl) ?_
 refine eqf_cons (by rfl) (by go_simp; rfl) (by go_simp; rfl) (by go_simp) ?_
 exact eqf_last (by rfl) (by go_simp; rfl) (by go_simp; rfl) (by go_simp)

attribute [local go_sem high] eqA30
mutual
def laws_FnOrdersLikely.j0 : Nat → List Int → Int → Int → List Int → Int → Bool → Bool → Int → Int → Option (Bool)
 | 0, _, _, _, _, _, _, _, _, _ => none
 | k + 1, x1, x5, x6, x7, x8, x9, x125, x533000, x533001 => if x125 = true then (none) else (if x9 = true then ((impl_CountLadders.f k x5 x6).bind fun bt537 => ((impl_InversionsOf.f k x7).bind fun bt539 => ((impl_CountLeast.f k x7).bind fun bt541 => ((impl_BackOrder.f k x7).bind fun bt543 => ((impl_CountForOrder.f k x5 x6 bt543.1).bind fun bt547 => (if bt537.2 = true then (if x533001 = 0 then (none) else (if (wrap64 (x533000 * (wrap64 (Int.tdiv bt537.1 x533001)))) = x8 then (if bt539.2 = true then (if bt541.2 = true then (if bt543.2 = true then (if bt547.2 = true then (laws_FnOrdersLikely.j1 k x1 x5 x6 x7 x8 bt539.1 bt541.1 (bt547.1 != x8)) else (none)) else (none)) else (none)) else (none)) else (none))) else (none))))))) else (laws_FnOrdersLikely.j3 k x1))
def laws_FnOrdersLikely.j3 : Nat → List Int → Option (Bool)
 | 0, _ => none
 | k + 1, x1 => (spec_DrawMeanInversions.f x1).bind fun bt556 => ((impl_MeanInversions.f k bt556.1 bt556.2).bind fun bt558 => ((spec_MeanInversions.f k bt556.1 bt556.2).bind fun bt562 => ((impl_CountOrdersMade.f k bt556.1 bt556.2).bind fun bt566 => ((spec_CountOrdersMade.f k bt556.1 bt556.2).bind fun bt568 => ((impl_LikeliestOrder.f k bt556.1 bt556.2).bind fun bt570 => ((spec_LikeliestOrder.f k bt556.1 bt556.2).bind fun bt574 => (if (bt558.2.2 != bt562.2.2) = true then (none) else (if (!(bt558.1 == bt562.1) || (!(bt558.2.1 == bt562.2.1))) = true then (none) else (if (bt566.2 != bt568.2) = true then (none) else (if bt566.1 = bt568.1 then (if (bt570.2 != bt574.2) = true then (none) else ((laws_nSame.f k bt570.1 bt574.1).bind fun t578 => (if t578 = true then (if (bt566.2 != bt558.2.2) = true then (none) else (laws_FnOrdersLikely.j4 k x1 bt556.1 bt556.2 bt558.2.2 bt566.1 (bt570.2 != bt558.2.2) bt558.1 bt558.2.1)) else (none)))) else (none)))))))))))
def laws_FnOrdersLikely.j4 : Nat → List Int → Int → Int → Bool → Int → Bool → Int → Int → Option (Bool)
 | 0, _, _, _, _, _, _, _, _ => none
 | k + 1, x1, x30, x31, x33, x36, x346, x562000, x562001 => if x346 = true then (none) else (if x33 = true then (laws_FnOrdersLikely.l0 k x1 x30 x31 x36 1 3 x562000 x562001) else (laws_FnOrdersLikely.j6 k x1))
def laws_FnOrdersLikely.j6 : Nat → List Int → Option (Bool)
 | 0, _ => none
 | k + 1, x1 => (spec_DrawMeanMeetings.f x1).bind fun bt579 => ((impl_MeanMeetings.f k bt579.1 bt579.2.1 bt579.2.2.1 bt579.2.2.2).bind fun bt583 => ((spec_MeanMeetings.f k bt579.1 bt579.2.1 bt579.2.2.1 bt579.2.2.2).bind fun bt587 => ((spec_DrawFirstAll.f x1).bind fun t591 => ((impl_FirstAll.f t591).bind fun bt592 => ((spec_FirstAll.f k t591).bind fun bt594 => (if (bt583.2.2 != bt587.2.2) = true then (none) else (if (!(bt583.1 == bt587.1) || (!(bt583.2.1 == bt587.2.1))) = true then (none) else (if (bt592.2 != bt594.2) = true then (none) else (if bt592.1 = bt594.1 then (if bt592.2 = true then (laws_FnOrdersLikely.j7 k bt579.1 bt579.2.1 bt583.2.2 (bt592.1 != (wrap64 ((wrap64 (Int.tdiv (wrap64 (t591 * (wrap64 (t591 - 1)))) 2)) - 1)))) else (laws_FnOrdersLikely.j7 k bt579.1 bt579.2.1 bt583.2.2 false)) else (none))))))))))
def laws_FnOrdersLikely.j7 : Nat → Int → Int → Bool → Bool → Option (Bool)
 | 0, _, _, _, _ => none
 | k + 1, x46, x47, x51, x442 => if x442 = true then (none) else (if x51 = true then ((impl_CountLadders.f k x46 x47).bind fun bt596 => (laws_FnOrdersLikely.l1 k x46 x47 bt596.1 bt596.2 0 0)) else (some true))
def laws_FnOrdersLikely.l1 : Nat → Int → Int → Int → Bool → Int → Int → Option (Bool)
 | 0, _, _, _, _, _, _ => none
 | k + 1, x46, x47, x59, x60, x61, x62 => if x62 < x46 then (laws_FnOrdersLikely.l2 k x46 x47 x59 x60 x61 x62 (wrap64 (x62 + 1))) else (if x60 = true then (some (x61 == (wrap64 (x47 * x59)))) else (none))
def laws_FnOrdersLikely.l2 : Nat → Int → Int → Int → Bool → Int → Int → Int → Option (Bool)
 | 0, _, _, _, _, _, _, _ => none
 | k + 1, x46, x47, x59, x60, x61, x62, x63 => if x63 < x46 then ((impl_MeanMeetings.f k x46 x47 x62 x63).bind fun bt598 => (if bt598.2.2 = true then (if bt598.2.1 = 0 then (none) else (laws_FnOrdersLikely.l2 k x46 x47 x59 x60 (wrap64 (x61 + (wrap64 (bt598.1 * (wrap64 (Int.tdiv x59 bt598.2.1)))))) x62 (wrap64 (x63 + 1)))) else (none))) else (laws_FnOrdersLikely.l1 k x46 x47 x59 x60 x61 (wrap64 (x62 + 1)))
def laws_FnOrdersLikely.l0 : Nat → List Int → Int → Int → Int → Int → Int → Int → Int → Option (Bool)
 | 0, _, _, _, _, _, _, _, _ => none
 | k + 1, x1, x30, x31, x36, x44, x45, x562000, x562001 => if x45 ≤ x30 then (laws_FnOrdersLikely.l0 k x1 x30 x31 x36 (wrap64 (x44 * x45)) (wrap64 (x45 + 1)) x562000 x562001) else (if x36 < 1 then (none) else (if x36 > x44 then (none) else (if x562000 < 0 then (none) else (if x562000 > (wrap64 (x31 * x562001)) then (none) else (laws_FnOrdersLikely.j6 k x1)))))
def laws_FnOrdersLikely.j1 : Nat → List Int → Int → Int → List Int → Int → Int → Int → Bool → Option (Bool)
 | 0, _, _, _, _, _, _, _, _ => none
 | k + 1, x1, x5, x6, x7, x8, x18, x20, x188 => if x188 = true then (none) else (if x18 > x6 then (if x8 = 0 then (if (Int.tmod (wrap64 (x18 - x6)) 2) = 0 then (if x18 = x6 then (if x8 = x20 then (if x18 < x6 then (if (Int.tmod (wrap64 (x6 - x18)) 2) = 0 then (laws_FnOrdersLikely.j2 k x1 x5 x6 x7 x8 (decide (x8 < 1))) else (laws_FnOrdersLikely.j2 k x1 x5 x6 x7 x8 false)) else (laws_FnOrdersLikely.j2 k x1 x5 x6 x7 x8 false)) else (none)) else (if x18 < x6 then (if (Int.tmod (wrap64 (x6 - x18)) 2) = 0 then (laws_FnOrdersLikely.j2 k x1 x5 x6 x7 x8 (decide (x8 < 1))) else (laws_FnOrdersLikely.j2 k x1 x5 x6 x7 x8 false)) else (laws_FnOrdersLikely.j2 k x1 x5 x6 x7 x8 false))) else (if x18 = x6 then (if x8 = x20 then (if x18 < x6 then (if (Int.tmod (wrap64 (x6 - x18)) 2) = 0 then (laws_FnOrdersLikely.j2 k x1 x5 x6 x7 x8 (decide (x8 < 1))) else (laws_FnOrdersLikely.j2 k x1 x5 x6 x7 x8 false)) else (laws_FnOrdersLikely.j2 k x1 x5 x6 x7 x8 false)) else (none)) else (if x18 < x6 then (if (Int.tmod (wrap64 (x6 - x18)) 2) = 0 then (laws_FnOrdersLikely.j2 k x1 x5 x6 x7 x8 (decide (x8 < 1))) else (laws_FnOrdersLikely.j2 k x1 x5 x6 x7 x8 false)) else (laws_FnOrdersLikely.j2 k x1 x5 x6 x7 x8 false)))) else (none)) else (if (Int.tmod (wrap64 (x18 - x6)) 2) = 0 then (if x18 = x6 then (if x8 = x20 then (if x18 < x6 then (if (Int.tmod (wrap64 (x6 - x18)) 2) = 0 then (laws_FnOrdersLikely.j2 k x1 x5 x6 x7 x8 (decide (x8 < 1))) else (laws_FnOrdersLikely.j2 k x1 x5 x6 x7 x8 false)) else (laws_FnOrdersLikely.j2 k x1 x5 x6 x7 x8 false)) else (none)) else (if x18 < x6 then (if (Int.tmod (wrap64 (x6 - x18)) 2) = 0 then (laws_FnOrdersLikely.j2 k x1 x5 x6 x7 x8 (decide (x8 < 1))) else (laws_FnOrdersLikely.j2 k x1 x5 x6 x7 x8 false)) else (laws_FnOrdersLikely.j2 k x1 x5 x6 x7 x8 false))) else (if x8 = 0 then (if x18 = x6 then (if x8 = x20 then (if x18 < x6 then (if (Int.tmod (wrap64 (x6 - x18)) 2) = 0 then (laws_FnOrdersLikely.j2 k x1 x5 x6 x7 x8 (decide (x8 < 1))) else (laws_FnOrdersLikely.j2 k x1 x5 x6 x7 x8 false)) else (laws_FnOrdersLikely.j2 k x1 x5 x6 x7 x8 false)) else (none)) else (if x18 < x6 then (if (Int.tmod (wrap64 (x6 - x18)) 2) = 0 then (laws_FnOrdersLikely.j2 k x1 x5 x6 x7 x8 (decide (x8 < 1))) else (laws_FnOrdersLikely.j2 k x1 x5 x6 x7 x8 false)) else (laws_FnOrdersLikely.j2 k x1 x5 x6 x7 x8 false))) else (none))))
def laws_FnOrdersLikely.j2 : Nat → List Int → Int → Int → List Int → Int → Bool → Option (Bool)
 | 0, _, _, _, _, _, _ => none
 | k + 1, x1, x5, x6, x7, x8, x232 => if x232 = true then (none) else ((impl_LikeliestOrder.f k x5 x6).bind fun bt549 => ((impl_CountForOrder.f k x5 x6 bt549.1).bind fun bt553 => (if bt549.2 = true then (if bt553.2 = true then (if bt553.1 < x8 then (none) else (if bt553.1 = x8 then ((laws_nLess.f k x7 bt549.1).bind fun t555 => (if t555 = true then (none) else (laws_FnOrdersLikely.j3 k x1))) else (laws_FnOrdersLikely.j3 k x1))) else (none)) else (none))))
end
def laws_FnOrdersLikely.f (k : Nat) (l0 : List Int) (l1 : List Int) : Option (Bool) := (laws_big.f l0 l1).bind fun t519 => (if t519 = true then (some true) else ((spec_DrawCountForOrder.f k l0).bind fun bt520 => ((impl_CountForOrder.f k bt520.1 bt520.2.1 bt520.2.2).bind fun bt525 => ((spec_CountForOrder.f k bt520.1 bt520.2.1 bt520.2.2).bind fun bt527 => ((impl_ChanceOfOrder.f k bt520.1 bt520.2.1 bt520.2.2).bind fun bt529 => ((spec_ChanceOfOrder.f k bt520.1 bt520.2.1 bt520.2.2).bind fun bt533 => (if (bt525.2 != bt527.2) = true then (none) else (if bt525.1 = bt527.1 then (if (bt529.2.2 != bt533.2.2) = true then (none) else (if (!(bt529.1 == bt533.1) || (!(bt529.2.1 == bt533.2.1))) = true then (none) else (laws_FnOrdersLikely.j0 k l1 bt520.1 bt520.2.1 bt520.2.2 bt525.1 bt525.2 (bt529.2.2 != bt525.2) bt529.1 bt529.2.1))) else (none)))))))))

end Go.Proofs.Ytabobnlpcapohaa.Q
