/- Each function below comes to the Lean function beside it (theorems '.calls'); no condition beyond each theorem's own. Written by our program oprint.py over the kit's print. -/
import Derived.Test.YtgjamcfnpofbhaaQx0
import Derived.Test.YtgjamcfnpofbhaaQx4
import Derived.Test.YtgjamcfnpofbhaaQx11
namespace Go.Proofs.Ytgjamcfnpofbhaa.Q
open Go.RowKit Go.Proofs.YtgjamcfnpofbhaaW.PrintWords Go.Proofs.YtgjamcfnpofbhaaW.PrintLast Go.Proofs.YtgjamcfnpofbhaaW.PrintMore
attribute [local go_sem] max2_int min2_int max_two min_two max_three min_three max_four min_four   -- for this text's walks alone
set_option linter.unusedVariables false
set_option linter.unusedSimpArgs false

/-! ### impl_round: function 79 -/
def impl_round.j0 : Nat → Int → Int → Int → Int → Option (Int × Int)
 | 0, _, _, _, _ => none
 | k + 1, x1, x2, x8, x9 => if x1 = x2 then (some (x8, x9)) else (if x1 = x8 then (some (x2, wrap64 (-x9))) else (some (x1, 0)))
def impl_round.f (k : Nat) (a0 : Int) (a1 : Int) (a2 : Int) : Option (Int × Int) := if a0 = 0 then (none) else (if (Int.tmod (wrap64 (a2 + 1)) a0) = 0 then (impl_round.j0 k a1 a2 (Int.tmod (wrap64 (a2 + 1)) a0) 1) else (impl_round.j0 k a1 a2 (Int.tmod (wrap64 (a2 + 1)) a0) 0))
theorem impl_round.mono_l : ∀ k, (∀ y0 y1 y2 y3, LeO (impl_round.j0 k y0 y1 y2 y3) (impl_round.j0 (k + 1) y0 y1 y2 y3))
 | 0 => fun _ _ _ _ r h => by simp [impl_round.j0] at h
 | k + 1 => by
  have ih0 := impl_round.mono_l k
  ·
   intro y0 y1 y2 y3
   unfold impl_round.j0
   repeat' first
   | (with_reducible exact ih0 _ _ _ _)
   | (with_reducible exact LeO.refl _)
   | (with_reducible exact LeO.none _)
   | (with_reducible refine LeO.ite ?_ ?_)
   | (with_reducible refine LeO.bind ?_ (fun _ => ?_))
   | exact ih0 _ _ _ _
   | exact LeO.none _
   | refine LeO.ite ?_ ?_
   | refine LeO.bind ?_ (fun _ => ?_)
theorem impl_round.mono : ∀ a0 a1 a2 k, LeO (impl_round.f k a0 a1 a2) (impl_round.f (k + 1) a0 a1 a2) := by
 intro a0 a1 a2 k
 have ih0 := impl_round.mono_l k
 unfold impl_round.f
 repeat' first
   | (with_reducible exact ih0 _ _ _ _)
   | (with_reducible exact LeO.refl _)
   | (with_reducible exact LeO.none _)
   | (with_reducible refine LeO.ite ?_ ?_)
   | (with_reducible refine LeO.bind ?_ (fun _ => ?_))
   | exact ih0 _ _ _ _
   | exact LeO.none _
   | refine LeO.ite ?_ ?_
   | refine LeO.bind ?_ (fun _ => ?_)
set_option maxHeartbeats 8000000 in
set_option maxRecDepth 100000 in
theorem impl_round.calls (k : Nat) (a0 : Int) (a1 : Int) (a2 : Int) (r1 : Int) (r2 : Int) (w : World) (h : impl_round.f k a0 a1 a2 = some (r1, r2)) :
  Calls Try.prog 79 #[.int .i64 a0, .int .i64 a1, .int .i64 a2] w fun e w' => e = .returned (.tuple #[.int .i64 r1, .int .i64 r2]) ∧ Drawn0 w w' := by
 have H : (if a0 = 0 then (none) else (if (Int.tmod (wrap64 (a2 + 1)) a0) = 0 then (impl_round.j0 k a1 a2 (Int.tmod (wrap64 (a2 + 1)) a0) 1) else (impl_round.j0 k a1 a2 (Int.tmod (wrap64 (a2 + 1)) a0) 0))) = some (r1, r2) := h
 clear h
 by_cases c4 : a0 = 0
 ·
  rw [if_pos c4] at H
  exact absurd H (by simp)
 ·
  rw [if_neg c4] at H
  have c4b0 : (a0 == 0) = false := beq_eq_false_iff_ne.mpr c4
  have c4b1 : (a0 != 0) = true := bne_iff_ne.mpr c4
  have HC5 := Aside0.mk H
  clear H
  go_enter Try.func79, Try.ntmps79
  go_upto_if 15 with (fail)
  go_cut [9] (fun v9 wc => ∃ (kq : Nat) (x9_4 : Int), v9 = .int .i64 x9_4 ∧ Aside0 (impl_round.j0 kq a1 a2 (Int.tmod (wrap64 (a2 + 1)) a0) x9_4 = some (r1, r2)) ∧ Aside0 (kq ≤ k) ∧ Drawn0 w wc)
  case first =>
   have H := HC5.out
   clear HC5
   by_cases c6 : (Int.tmod (wrap64 (a2 + 1)) a0) = 0
   ·
    rw [if_pos c6] at H
    have c6b0 : ((Int.tmod (wrap64 (a2 + 1)) a0) == 0) = true := beq_iff_eq.mpr c6
    have c6b1 : ((Int.tmod (wrap64 (a2 + 1)) a0) != 0) = false := bne_eq_false_iff_eq.mpr c6
    clear c6
    (first | rw [c6b0] | (simp only [i64_w, i32_w]; rw [c6b0]) | skip)
    have H' := Aside0.mk H
    clear H
    go_wp2
    go_meet
    case rel => exact ⟨_, (1), (by first | rfl | (simp; done) | (simp [*]; done)), H', ⟨by first | omega | exact Nat.le_refl _⟩, by repeat (first | exact Drawn0.refl _ | apply Drawn0.step)⟩
   ·
    rw [if_neg c6] at H
    have c6b0 : ((Int.tmod (wrap64 (a2 + 1)) a0) == 0) = false := beq_eq_false_iff_ne.mpr c6
    have c6b1 : ((Int.tmod (wrap64 (a2 + 1)) a0) != 0) = true := bne_iff_ne.mpr c6
    (first | rw [c6b0] | (simp only [i64_w, i32_w]; rw [c6b0]) | skip)
    have H' := Aside0.mk H
    clear H
    go_wp2
    go_meet
    case rel => exact ⟨_, (0), (by first | rfl | (simp; done) | (simp [*]; done)), H', ⟨by first | omega | exact Nat.le_refl _⟩, by repeat (first | exact Drawn0.refl _ | apply Drawn0.step)⟩
  case rest =>
   clear HC5
   try clear p2
   try clear c4
   try clear c4b0
   try clear c4b1
   try clear c6
   try clear c6b0
   try clear c6b1
   try clear p6
   obtain ⟨kq, x9_4, rfl, HA, HJ4, ⟨mc4, rfl⟩⟩ := hcut
   cases kq with
   | zero => exact absurd HA.out (by simp [impl_round.j0])
   | succ kj4 =>
    have H := HA.out
    clear HA
    simp only [impl_round.j0] at H
    by_cases c7 : a1 = a2
    ·
     rw [if_pos c7] at H
     have c7b0 : (a1 == a2) = true := beq_iff_eq.mpr c7
     have c7b1 : (a1 != a2) = false := bne_eq_false_iff_eq.mpr c7
     clear c7
     simp only [Option.some.injEq, Prod.mk.injEq] at H
     obtain ⟨rfl, rfl⟩ := H
     go_wp2
     go_ret2
     exact ⟨by first | rfl | (simp; done) | (simp [*]; done), by repeat (first | exact Drawn0.refl _ | apply Drawn0.step)⟩
    ·
     rw [if_neg c7] at H
     have c7b0 : (a1 == a2) = false := beq_eq_false_iff_ne.mpr c7
     have c7b1 : (a1 != a2) = true := bne_iff_ne.mpr c7
     by_cases c8 : a1 = (Int.tmod (wrap64 (a2 + 1)) a0)
     ·
      rw [if_pos c8] at H
      have c8b0 : (a1 == (Int.tmod (wrap64 (a2 + 1)) a0)) = true := beq_iff_eq.mpr c8
      have c8b1 : (a1 != (Int.tmod (wrap64 (a2 + 1)) a0)) = false := bne_eq_false_iff_eq.mpr c8
      clear c8
      simp only [Option.some.injEq, Prod.mk.injEq] at H
      obtain ⟨rfl, rfl⟩ := H
      go_wp2
      go_ret2
      exact ⟨by first | rfl | (simp; done) | (simp [*]; done), by repeat (first | exact Drawn0.refl _ | apply Drawn0.step)⟩
     ·
      rw [if_neg c8] at H
      have c8b0 : (a1 == (Int.tmod (wrap64 (a2 + 1)) a0)) = false := beq_eq_false_iff_ne.mpr c8
      have c8b1 : (a1 != (Int.tmod (wrap64 (a2 + 1)) a0)) = true := bne_iff_ne.mpr c8
      simp only [Option.some.injEq, Prod.mk.injEq] at H
      obtain ⟨rfl, rfl⟩ := H
      go_wp2
      go_ret2
      exact ⟨by first | rfl | (simp; done) | (simp [*]; done), by repeat (first | exact Drawn0.refl _ | apply Drawn0.step)⟩

/-! ### impl_poleWay: function 74 -/
def impl_poleWay.l0 : Nat → Int → List Int → Int → List Int → Int → Int → Int → List Int → Option (List Int × Int)
 | 0, _, _, _, _, _, _, _, _ => none
 | k + 1, x1, x6, x7, x15, x16, x17, x531000, x531001 => if x17 < x16 then (if 0 ≤ x17 then (if x17 < (x15.length : Int) then ((impl_round.f k x531000 x1 (rd x15 x17)).bind fun bt535 => (if x6.length < 17592186044416 then (impl_poleWay.l0 k bt535.1 (x6 ++ [bt535.1]) (wrap64 (x7 + bt535.2)) x15 x16 (wrap64 (x17 + 1)) x531000 x531001) else (none))) else (none)) else (none)) else (some (x6, x7))
def impl_poleWay.f (k : Nat) (a0_0 : Int) (l0_1 : List Int) (a1 : Int) : Option (List Int × Int) := impl_poleWay.l0 k a1 (([a1] : List Int)) 0 l0_1 (l0_1.length : Int) 0 a0_0 l0_1
set_option maxHeartbeats 8000000 in
set_option maxRecDepth 100000 in
theorem impl_poleWay.calls (k : Nat) (a0_0 : Int) (A0_1 : Option Addr) (c0_1 : Nat) (l0_1 : List Int) (a1 : Int) (r1 : List Int) (r2 : Int) (w : World) (hr0_1 : Kd.C (Kd.int .i64) w A0_1 l0_1.length l0_1) (hc0_1 : l0_1.length ≤ c0_1) (h : impl_poleWay.f k a0_0 l0_1 a1 = some (r1, r2)) :
  Calls Try.prog 74 #[.agg #[.int .i64 a0_0, .slice A0_1 l0_1.length c0_1], .int .i64 a1] w fun e w' => ∃ v0_ : Value, e = .returned (.tuple #[v0_, .int .i64 r2]) ∧ Kd.R (Kd.int .i64) 3 w' w.heap.size (fun _ => True) v0_ r1 ∧ Below w.heap.size w w' := by
 have hu26 := Try.underlying26
 have HR0_1 := Aside0.mk hr0_1
 have HC0_1 := Aside0.mk hc0_1
 clear hr0_1 hc0_1
 have HB := Aside0.mk (Below.refl w.heap.size w)
 have H : (impl_poleWay.l0 k a1 (([a1] : List Int)) 0 l0_1 (l0_1.length : Int) 0 a0_0 l0_1) = some (r1, r2) := h
 clear h
 obtain ⟨y531, hy531⟩ : ∃ y_ : List Int, y_ = (([a1] : List Int)) := ⟨_, rfl⟩
 replace H : (impl_poleWay.l0 k a1 y531 0 l0_1 (l0_1.length : Int) 0 a0_0 l0_1) = some (r1, r2) := by first | (rw [hy531]; with_reducible exact H) | (have H2_ := (Option.bind_some _ _).symm.trans H; rw [hy531]; with_reducible exact H2_) | (have H2_ := (Option.bind_some _ _).symm.trans H; with_reducible exact H2_) | with_reducible exact H | (rw [hy531]; exact H) | exact H
 have Ny531 := Aside0.mk hy531
 clear hy531
 have H' := Aside0.mk H
 clear H
 go_enter Try.func74, Try.ntmps74
 go_wp2_with (first | ((with_reducible refine gate_dst (N := 2) rfl ?_); refine box_event ?hg (N := 2) ?hd (cs := #[.int .i64 a0_0, .slice A0_1 l0_1.length c0_1]) (t := 26) ?hr ?_; (case hd => rfl); (case hg => rfl); (case hr => first | (go_simp; done) | (go_simp; rfl)); intro gb530 hg w3 hbox hb; have n0_ := Aside0.mk (below_step (by repeat (first | (with_reducible first | exact HB.out | apply below_alloc | apply pw_below_drewN | apply below_drew1) | exact HB.out)) hb); have n1_ := Aside0.mk (hbox); have n2_ := Aside0.mk ((by rw [hg]; exact (below_size (by repeat (first | (with_reducible first | exact HB.out | apply below_alloc | apply pw_below_drewN | apply below_drew1) | exact HB.out))) : w.heap.size ≤ gb530)); have n3_ := Aside0.mk ((by rw [hg]; exact (below_size (by repeat (first | (with_reducible first | exact HB.out | apply below_alloc | apply pw_below_drewN | apply below_drew1) | exact HB.out))) : w.heap.size ≤ gb530)); clear HB; have HB := n0_; have BK530 := n1_; have GW530 := n2_; have GE530 := n3_; clear n0_ n1_ n2_ n3_; clear hb hbox hg) | ((with_reducible refine gate_dst (N := 13) rfl ?_); refine Kd.R_lit (Kd.int .i64) _ 3 ?hg (N := 13) ?hd (xs := ([a1] : List Int)) (inner := [.int .i64 a1]) (ok := fun _ => True) (okp := fun _ => True) ?hr ?hp (fun _ hk => hk) trivial (Below.refl _ _) (Nat.le_refl _) (by simp) ?_; (case hd => rfl); (case hg => rfl); (case hr => first | (go_simp; done) | (go_simp; rfl)); (case hp => exact (Reps.one (show Kd.M (Kd.int .i64) _ _ _ a1 [.int .i64 a1] from rfl) (Reps.none _ _))); intro v532 w4 ho5 hb hg_ hnew_; clear hg_ hnew_; (first | rw [← Ny531.out] at ho5 | (simp only [Int.reduceToNat] at ho5; rw [← Ny531.out] at ho5)); have n0_ := Aside0.mk (Kd.R_lower ho5 (below_size (by repeat (first | (with_reducible first | exact HB.out | apply below_alloc | apply pw_below_drewN | apply below_drew1 | refine below_set ?_ GE530.out) | exact HB.out)))); have n1_ := Aside0.mk (blk_below (g := gb530) (o := .cells #[.int .i64 a0_0, .slice A0_1 l0_1.length c0_1] 26 (0, 0)) (by (with_reducible repeat (first | refine blk_drewN ?_ _ | refine blk_drew ?_ | refine blk_alloc ?_ _)); exact BK530.out) hb); have n2_ := Aside0.mk (below_step (by repeat (first | (with_reducible first | exact HB.out | apply below_alloc | apply pw_below_drewN | apply below_drew1 | refine below_set ?_ GE530.out) | exact HB.out)) hb); clear BK530; clear HB; have HO533 := n0_; have BK530 := n1_; have HB := n2_; clear n0_ n1_ n2_; clear hb ho5; have hcz6_0 : w4.cell? ⟨gb530, 0, none⟩ = some (.int .i64 a0_0) := (blk_cell BK530.out 0).trans rfl; have hcz6_1 : w4.cell? ⟨gb530, 1, none⟩ = some (.slice A0_1 l0_1.length c0_1) := (blk_cell BK530.out 1).trans rfl; have hfz6_0 := blk_frozen BK530.out 0; have hfz6_1 := blk_frozen BK530.out 1))
 go_loopg [1, 6, 7, 17] k (fun kq v1 v6 v7 v17 w' => ∃ (x1_1 : Int) (x6_1 : List Int) (x7_1 : Int) (x17_1 : Int), v1 = .int .i64 x1_1 ∧ v7 = .int .i64 x7_1 ∧ v17 = .int .i64 x17_1 ∧ Aside0 (impl_poleWay.l0 kq x1_1 x6_1 x7_1 l0_1 (l0_1.length : Int) x17_1 a0_0 l0_1 = some (r1, r2)) ∧ Aside0 (kq ≤ k) ∧ Aside0 (Kd.R (Kd.int .i64) 3 w' w.heap.size (fun _ => True) v6 x6_1) ∧ Aside0 (w'.heap[gb530]? = some (.cells #[.int .i64 a0_0, (.slice A0_1 l0_1.length c0_1)] 26 (0, 0))) ∧ Aside0 (Below w.heap.size w w'))
 case atStart => exact ⟨(a1), (y531), (0), (0), (by first | rfl | (simp; done) | (simp [*]; done)), (by first | rfl | (simp; done) | (simp [*]; done)), (by first | rfl | (simp; done) | (simp [*]; done)), H', ⟨Nat.le_refl _⟩, ⟨by (with_reducible repeat (first | apply Kd.R_alloc | apply Kd.R_drewN | apply Kd.R_drew)); exact HO533.out⟩, ⟨by (with_reducible repeat (first | refine blk_drewN ?_ _ | refine blk_drew ?_ | refine blk_alloc ?_ _)); exact BK530.out⟩, ⟨by repeat (first | (with_reducible first | exact HB.out | apply below_alloc | apply pw_below_drewN | apply below_drew1 | refine below_set ?_ GE530.out) | exact HB.out)⟩⟩
 case round =>
  clear H'
  try clear p2
  try clear hcz6_0
  try clear hcz6_1
  try clear hfz6_0
  try clear hfz6_1
  obtain ⟨x1_1, x6_1, x7_1, x17_1, rfl, rfl, rfl, HA, HK1, HO_6, BK530, HB⟩ := hrel
  cases gk with
  | zero => exact absurd HA.out (by simp [impl_poleWay.l0])
  | succ k1 =>
   have H := HA.out
   clear HA
   simp only [impl_poleWay.l0] at H
   by_cases c7 : x17_1 < (l0_1.length : Int)
   ·
    rw [if_pos c7] at H
    have c7b0 : decide (x17_1 < (l0_1.length : Int)) = true := decide_eq_true c7
    clear c7
    by_cases c8 : 0 ≤ x17_1
    ·
     rw [if_pos c8] at H
     have c8b0 : decide (0 ≤ x17_1) = true := decide_eq_true c8
     clear c8
     by_cases c9 : x17_1 < (l0_1.length : Int)
     ·
      rw [if_pos c9] at H
      have c9b0 : decide (x17_1 < (l0_1.length : Int)) = true := decide_eq_true c9
      clear c9
      replace H := Option.bind_eq_some_iff.mp H
      obtain ⟨⟨t535, t536⟩, A100, H⟩ := H
      replace H : (if x6_1.length < 17592186044416 then (impl_poleWay.l0 k1 t535 (x6_1 ++ [t535]) (wrap64 (x7_1 + t536)) l0_1 (l0_1.length : Int) (wrap64 (x17_1 + 1)) a0_0 l0_1) else (none)) = some (r1, r2) := H
      have A10 := Aside0.mk A100
      clear A100
      by_cases c11 : x6_1.length < 17592186044416
      ·
       rw [if_pos c11] at H
       have LMc11 := Aside0.mk c11
       clear c11
       obtain ⟨y537, hy537⟩ : ∃ y_ : List Int, y_ = (x6_1 ++ [t535]) := ⟨_, rfl⟩
       replace H : (impl_poleWay.l0 k1 t535 y537 (wrap64 (x7_1 + t536)) l0_1 (l0_1.length : Int) (wrap64 (x17_1 + 1)) a0_0 l0_1) = some (r1, r2) := by first | (rw [hy537]; with_reducible exact H) | (have H2_ := (Option.bind_some _ _).symm.trans H; rw [hy537]; with_reducible exact H2_) | (have H2_ := (Option.bind_some _ _).symm.trans H; with_reducible exact H2_) | with_reducible exact H | (rw [hy537]; exact H) | exact H
       have Ny537 := Aside0.mk hy537
       clear hy537
       have H' := Aside0.mk H
       clear H
       have p534 : 0 ≤ (x17_1 : Int) := of_decide_eq_true (by first | (with_reducible assumption) | assumption)
       have q534 : x17_1 < (l0_1.length : Int) := of_decide_eq_true (by first | (with_reducible assumption) | assumption)
       obtain ⟨ad534, e534, hx534_0⟩ := Kd.at_int HR0_1.out x17_1 p534 q534
       cases e534
       replace hx534_0 := (HB.out.cell (World.block_lt_of_cell? w _ hx534_0)).trans hx534_0
       replace p534 := eq_true p534
       replace q534 := eq_true q534
       have hcz12_0 : wr.cell? ⟨gb530, 0, none⟩ = some (.int .i64 a0_0) := (blk_cell BK530.out 0).trans rfl
       have hcz12_1 : wr.cell? ⟨gb530, 1, none⟩ = some (.slice (some ad534) l0_1.length c0_1) := (blk_cell BK530.out 1).trans rfl
       have hfz12_0 := blk_frozen BK530.out 0
       have hfz12_1 := blk_frozen BK530.out 1
       go_wp2_with (first | ((with_reducible refine gate_callee (f := 79) rfl ?_); refine goesL_ (some 26) rfl rfl Try.func79 (by kernel_rfl) rfl #[.int .i64 a0_0, .int .i64 x1_1, .int .i64 (rd l0_1 x17_1)] rfl (by (try simp only [List.map_toArray, List.map_cons, List.map_nil]); first | done | rfl | (simp only [List.length_drop, List.length_take]; rfl)) ?_; (with_reducible refine (impl_round.calls k1 a0_0 x1_1 (rd l0_1 x17_1) t535 t536 _ A10.out).mono ?_); rintro e w' ⟨rfl, ⟨nd, rfl⟩⟩; refine ⟨_, rfl, ?_⟩) | ((with_reducible refine gate_builtin (b := .append) (xs := #[.tmp 33, .tmp 35]) rfl ?_); at_builtin; refine Kd.R_append (Kd.int .i64) (w0 := w) w.heap.size rfl (.tmp 33) (.tmp 35) 22 3 (.int .i64 0) 8 rfl Try.underlying22 info3 rfl (by decide) (by omega) u6 x6_1 t535 [.int .i64 t535] (fun _ => True) (fun _ => False) rfl rfl ?aP (fun _ hk => hk.elim) ?aF ?aO ?aB ?aS ?aL ?_; (case aP => exact rfl); (case aB => exact (by repeat (first | (with_reducible first | exact HB.out | apply below_alloc | apply pw_below_drewN | apply below_drew1 | refine below_set ?_ GE530.out) | exact HB.out))); (case aF => exact (fun _ _ => trivial)); (case aO => exact (by (with_reducible repeat (first | apply Kd.R_alloc | apply Kd.R_drewN | apply Kd.R_drew)); exact HO_6.out)); (case aS => exact (below_size (by repeat (first | (with_reducible first | exact HB.out | apply below_alloc | apply pw_below_drewN | apply below_drew1 | refine below_set ?_ GE530.out) | exact HB.out)))); (case aL => have := LMc11.out; omega); intro v538 w13 ho hb hg hat; rw [← Ny537.out] at ho; have n0_ := Aside0.mk (blk_grown (g := gb530) (o := .cells #[.int .i64 a0_0, .slice (some ad534) l0_1.length c0_1] 26 (0, 0)) (by (with_reducible repeat (first | refine blk_drewN ?_ _ | refine blk_drew ?_ | refine blk_alloc ?_ _)); exact BK530.out) hg (Kd.R_ne HO_6.out BK530.out (by decide))); have n1_ := Aside0.mk (hb); have n2_ := Aside0.mk (ho); clear BK530; clear HB; clear HO_6; have BK530 := n0_; have HB := n1_; have HO539 := n2_; clear n0_ n1_ n2_; clear ho hb hg hat))
       go_roundg k1
       case measure => have := HK1.out; omega
       case rel => exact ⟨(t535), (y537), (wrap64 (x7_1 + t536)), (wrap64 (x17_1 + 1)), (by first | rfl | (simp; done) | (simp [*]; done)), (by first | rfl | (simp; done) | (simp [*]; done)), (by first | rfl | (simp; done) | (simp [*]; done)), H', ⟨by have := HK1.out; omega⟩, ⟨by (with_reducible repeat (first | apply Kd.R_alloc | apply Kd.R_drewN | apply Kd.R_drew)); exact HO539.out⟩, ⟨by (with_reducible repeat (first | refine blk_drewN ?_ _ | refine blk_drew ?_ | refine blk_alloc ?_ _)); exact BK530.out⟩, ⟨by repeat (first | (with_reducible first | exact HB.out | apply below_alloc | apply pw_below_drewN | apply below_drew1 | refine below_set ?_ GE530.out) | exact HB.out)⟩⟩
      ·
       rw [if_neg c11] at H
       exact absurd H (by simp)
     ·
      rw [if_neg c9] at H
      exact absurd H (by simp)
    ·
     rw [if_neg c8] at H
     exact absurd H (by simp)
   ·
    rw [if_neg c7] at H
    have c7b0 : decide (x17_1 < (l0_1.length : Int)) = false := decide_eq_false c7
    clear c7
    simp only [Option.some.injEq, Prod.mk.injEq] at H
    obtain ⟨rfl, rfl⟩ := H
    go_wp2
    go_ret2
    exact ⟨_, by first | rfl | (simp [errW_none, errW_some] <;> rfl) | (simp [*, errW_none, errW_some] <;> rfl), by (with_reducible repeat (first | apply Kd.R_alloc | apply Kd.R_drewN | apply Kd.R_drew)); exact HO_6.out, by repeat (first | (with_reducible first | exact HB.out | apply below_alloc | apply pw_below_drewN | apply below_drew1 | refine below_set ?_ GE530.out) | exact HB.out)⟩

/-! ### impl_poleResult: function 55 -/
def impl_poleResult.l0 : Nat → Int → Int → Int → List Int → List Int → List Int → Option (List Int × List Int)
 | 0, _, _, _, _, _, _ => none
 | k + 1, x9, x10, x541000, x541001, x543000, x543001 => if x10 < x9 then ((impl_poleWay.f k x541000 x541001 x10).bind fun bt543 => (if 0 ≤ (wrap64 ((bt543.1.length : Int) - 1)) then (if (wrap64 ((bt543.1.length : Int) - 1)) < (bt543.1.length : Int) then ((some (([rd bt543.1 (wrap64 ((bt543.1.length : Int) - 1))] : List Int) : List Int)).bind fun y548 => (if x543000.length + y548.length < 17592186044416 then ((some (([bt543.2] : List Int) : List Int)).bind fun y554 => (if x543001.length + y554.length < 17592186044416 then (impl_poleResult.l0 k x9 (wrap64 (x10 + 1)) x541000 x541001 (x543000 ++ y548) (x543001 ++ y554)) else (none))) else (none))) else (none)) else (none))) else (some (x543000, x543001))
def impl_poleResult.f (k : Nat) (a0_0 : Int) (l0_1 : List Int) : Option (List Int × List Int) := impl_poleResult.l0 k a0_0 0 a0_0 l0_1 ([] : List Int) ([] : List Int)
def impl_poleResult.T6 : Bool × List (List Nat × List Nat) := (true, [([], []), ([0], [0]), ([], []), ([], []), ([3], [3]), ([4], [4]), ([2, 5], [2, 5]), ([6], [6]), ([7], [7]), ([1, 8], [1, 8]), ([], []), ([10], [10]), ([], []), ([12], [12]), ([11, 13, 9], [11, 13]), ([0, 1, 2, 3, 4, 5, 6, 7, 8, 9, 10, 11], []), ([15, 9, 14, 0, 1, 2, 3, 4, 5, 6, 7, 8, 9, 10, 11], [9, 15]), ([0, 1, 2, 3, 4, 5, 6, 7, 8, 9, 10, 11, 12, 13, 14, 15, 16], []), ([17, 14, 16, 0, 1, 2, 3, 4, 5, 6, 7, 8, 9, 10, 11, 12, 13, 14, 15, 16], [14, 17])])
def impl_poleResult.B6 : List Nat := [0, 1, 0, 0, 8, 24, 60, 124, 252, 511, 0, 1024, 0, 4096, 16383, 4095, 65535, 131071, 262143]
theorem impl_poleResult.tab6 : rtab .any (opsOf Try.f55 6) = impl_poleResult.T6 := by kernel_rfl
theorem impl_poleResult.bits6 : waitsOk impl_poleResult.T6.2 impl_poleResult.B6 = true := by kernel_rfl
set_option maxHeartbeats 8000000 in
set_option maxRecDepth 100000 in
theorem impl_poleResult.calls (k : Nat) (a0_0 : Int) (A0_1 : Option Addr) (c0_1 : Nat) (l0_1 : List Int) (r1 : List Int) (r2 : List Int) (w : World) (hr0_1 : Kd.C (Kd.int .i64) w A0_1 l0_1.length l0_1) (hc0_1 : l0_1.length ≤ c0_1) (h : impl_poleResult.f k a0_0 l0_1 = some (r1, r2)) :
  Calls Try.prog 55 #[.agg #[.int .i64 a0_0, .slice A0_1 l0_1.length c0_1]] w fun e w' => ∃ v0_ v1_ : Value, e = .returned (.agg #[v0_, v1_]) ∧ Kd.R (Kd.int .i64) 3 w' w.heap.size (fun k_ => some k_ ≠ (v1_ : Value).ownBlock) v0_ r1 ∧ Kd.R (Kd.int .i64) 3 w' w.heap.size (fun k_ => some k_ ≠ (v0_ : Value).ownBlock) v1_ r2 ∧ Below w.heap.size w w' := by
 have hu26 := Try.underlying26
 have hu36 := Try.underlying36
 have HR0_1 := Aside0.mk hr0_1
 have HC0_1 := Aside0.mk hc0_1
 clear hr0_1 hc0_1
 have HB := Aside0.mk (Below.refl w.heap.size w)
 have H : (impl_poleResult.l0 k a0_0 0 a0_0 l0_1 ([] : List Int) ([] : List Int)) = some (r1, r2) := h
 clear h
 have H' := Aside0.mk H
 clear H
 go_enter Try.func55, Try.ntmps55
 go_wp2_with (first | ((with_reducible refine gate_dst (N := 1) rfl ?_); refine box_event ?hg (N := 1) ?hd (cs := #[.int .i64 a0_0, .slice A0_1 l0_1.length c0_1]) (t := 26) ?hr ?_; (case hd => rfl); (case hg => rfl); (case hr => first | (go_simp; done) | (go_simp; rfl)); intro gb540 hg w2 hbox hb; have n0_ := Aside0.mk (below_step (by repeat (first | (with_reducible first | exact HB.out | apply below_alloc | apply pw_below_drewN | apply below_drew1) | exact HB.out)) hb); have n1_ := Aside0.mk (hbox); have n2_ := Aside0.mk ((by rw [hg]; exact (below_size (by repeat (first | (with_reducible first | exact HB.out | apply below_alloc | apply pw_below_drewN | apply below_drew1) | exact HB.out))) : w.heap.size ≤ gb540)); have n3_ := Aside0.mk ((by rw [hg]; exact (below_size (by repeat (first | (with_reducible first | exact HB.out | apply below_alloc | apply pw_below_drewN | apply below_drew1) | exact HB.out))) : w.heap.size ≤ gb540)); clear HB; have HB := n0_; have BK540 := n1_; have GW540 := n2_; have GE540 := n3_; clear n0_ n1_ n2_ n3_; clear hb hbox hg) | ((with_reducible refine gate_dst (N := 2) rfl ?_); refine box_event ?hg (N := 2) ?hd (cs := #[.slice none 0 0, .slice none 0 0]) (t := 36) ?hr ?_; (case hd => rfl); (case hg => rfl); (case hr => first | (go_simp; done) | (go_simp; rfl)); intro gb541 hg w3 hbox hb; have n0_ := Aside0.mk (blk_below (g := gb540) (o := .cells #[.int .i64 a0_0, .slice A0_1 l0_1.length c0_1] 26 (0, 0)) (by (with_reducible repeat (first | refine blk_drewN ?_ _ | refine blk_drew ?_ | refine blk_alloc ?_ _)); exact BK540.out) hb); have n1_ := Aside0.mk (below_step (by repeat (first | (with_reducible first | exact HB.out | apply below_alloc | apply pw_below_drewN | apply below_drew1 | refine below_set ?_ GE540.out) | exact HB.out)) hb); have n2_ := Aside0.mk (hbox); have n3_ := Aside0.mk ((by rw [hg]; exact (below_size (by repeat (first | (with_reducible first | exact HB.out | apply below_alloc | apply pw_below_drewN | apply below_drew1 | refine below_set ?_ GE540.out) | exact HB.out))) : w.heap.size ≤ gb541)); have n4_ := Aside0.mk ((by rw [hg]; exact (below_size (by repeat (first | (with_reducible first | exact HB.out | apply below_alloc | apply pw_below_drewN | apply below_drew1 | refine below_set ?_ GE540.out) | exact HB.out))) : w.heap.size ≤ gb541)); have n5_ := Aside0.mk ((by rw [hg]; exact Nat.ne_of_lt (blk_lt (g := gb540) (o := .cells #[.int .i64 a0_0, .slice A0_1 l0_1.length c0_1] 26 (0, 0)) (by (with_reducible repeat (first | refine blk_drewN ?_ _ | refine blk_drew ?_ | refine blk_alloc ?_ _)); exact BK540.out)) : gb540 ≠ gb541)); have n6_ := Aside0.mk ((by rw [hg]; exact Nat.ne_of_gt (blk_lt (g := gb540) (o := .cells #[.int .i64 a0_0, .slice A0_1 l0_1.length c0_1] 26 (0, 0)) (by (with_reducible repeat (first | refine blk_drewN ?_ _ | refine blk_drew ?_ | refine blk_alloc ?_ _)); exact BK540.out)) : gb541 ≠ gb540)); clear BK540; clear HB; have BK540 := n0_; have HB := n1_; have BK541 := n2_; have GW541 := n3_; have GE541 := n4_; have NB540_541 := n5_; have NB541_540 := n6_; clear n0_ n1_ n2_ n3_ n4_ n5_ n6_; clear hb hbox hg) | ((with_reducible refine gate_dst (N := 3) rfl ?_); refine box_event ?hg (N := 3) ?hd (cs := #[.slice none 0 0, .slice none 0 0]) (t := 36) ?hr ?_; (case hd => rfl); (case hg => rfl); (case hr => first | (go_simp; done) | (go_simp; rfl)); intro gb542 hg w4 hbox hb; have n0_ := Aside0.mk (blk_below (g := gb540) (o := .cells #[.int .i64 a0_0, .slice A0_1 l0_1.length c0_1] 26 (0, 0)) (by (with_reducible repeat (first | refine blk_drewN ?_ _ | refine blk_drew ?_ | refine blk_alloc ?_ _)); exact BK540.out) hb); have n1_ := Aside0.mk (blk_below (g := gb541) (o := .cells #[.slice none 0 0, .slice none 0 0] 36 (0, 0)) (by (with_reducible repeat (first | refine blk_drewN ?_ _ | refine blk_drew ?_ | refine blk_alloc ?_ _)); exact BK541.out) hb); have n2_ := Aside0.mk (below_step (by repeat (first | (with_reducible first | exact HB.out | apply below_alloc | apply pw_below_drewN | apply below_drew1 | refine below_set ?_ GE540.out | refine below_set ?_ GE541.out) | exact HB.out)) hb); have n3_ := Aside0.mk (hbox); have n4_ := Aside0.mk ((by rw [hg]; exact (below_size (by repeat (first | (with_reducible first | exact HB.out | apply below_alloc | apply pw_below_drewN | apply below_drew1 | refine below_set ?_ GE540.out | refine below_set ?_ GE541.out) | exact HB.out))) : w.heap.size ≤ gb542)); have n5_ := Aside0.mk ((by rw [hg]; exact (below_size (by repeat (first | (with_reducible first | exact HB.out | apply below_alloc | apply pw_below_drewN | apply below_drew1 | refine below_set ?_ GE540.out | refine below_set ?_ GE541.out) | exact HB.out))) : w.heap.size ≤ gb542)); have n6_ := Aside0.mk ((by rw [hg]; exact Nat.ne_of_lt (blk_lt (g := gb540) (o := .cells #[.int .i64 a0_0, .slice A0_1 l0_1.length c0_1] 26 (0, 0)) (by (with_reducible repeat (first | refine blk_drewN ?_ _ | refine blk_drew ?_ | refine blk_alloc ?_ _)); exact BK540.out)) : gb540 ≠ gb542)); have n7_ := Aside0.mk ((by rw [hg]; exact Nat.ne_of_gt (blk_lt (g := gb540) (o := .cells #[.int .i64 a0_0, .slice A0_1 l0_1.length c0_1] 26 (0, 0)) (by (with_reducible repeat (first | refine blk_drewN ?_ _ | refine blk_drew ?_ | refine blk_alloc ?_ _)); exact BK540.out)) : gb542 ≠ gb540)); have n8_ := Aside0.mk ((by rw [hg]; exact Nat.ne_of_lt (blk_lt (g := gb541) (o := .cells #[.slice none 0 0, .slice none 0 0] 36 (0, 0)) (by (with_reducible repeat (first | refine blk_drewN ?_ _ | refine blk_drew ?_ | refine blk_alloc ?_ _)); exact BK541.out)) : gb541 ≠ gb542)); have n9_ := Aside0.mk ((by rw [hg]; exact Nat.ne_of_gt (blk_lt (g := gb541) (o := .cells #[.slice none 0 0, .slice none 0 0] 36 (0, 0)) (by (with_reducible repeat (first | refine blk_drewN ?_ _ | refine blk_drew ?_ | refine blk_alloc ?_ _)); exact BK541.out)) : gb542 ≠ gb541)); clear BK540; clear BK541; clear HB; have BK540 := n0_; have BK541 := n1_; have HB := n2_; have BK542 := n3_; have GW542 := n4_; have GE542 := n5_; have NB540_542 := n6_; have NB542_540 := n7_; have NB541_542 := n8_; have NB542_541 := n9_; clear n0_ n1_ n2_ n3_ n4_ n5_ n6_ n7_ n8_ n9_; clear hb hbox hg; have hnb5 := NB542_540.out; have hnc5 := NB540_542.out; have hnb6 := NB542_541.out; have hnc6 := NB541_542.out; have hcz7_0 : w4.cell? ⟨gb542, 0, none⟩ = some (.slice none 0 0) := (blk_cell BK542.out 0).trans rfl; have hcz7_1 : w4.cell? ⟨gb542, 1, none⟩ = some (.slice none 0 0) := (blk_cell BK542.out 1).trans rfl; have hfz7_0 := blk_frozen BK542.out 0; have hfz7_1 := blk_frozen BK542.out 1; have hnb8 := NB540_541.out; have hnc8 := NB541_540.out; have hcz9_0 : w4.cell? ⟨gb540, 0, none⟩ = some (.int .i64 a0_0) := (blk_cell BK540.out 0).trans rfl; have hcz9_1 : w4.cell? ⟨gb540, 1, none⟩ = some (.slice A0_1 l0_1.length c0_1) := (blk_cell BK540.out 1).trans rfl; have hfz9_0 := blk_frozen BK540.out 0; have hfz9_1 := blk_frozen BK540.out 1))
 go_loopg [10] k (fun kq v10 w' => ∃ (x10_1 : Int) (x543000_1 : List Int) (x543001_1 : List Int) (u543000 : Value) (u543001 : Value), v10 = .int .i64 x10_1 ∧ Aside0 (impl_poleResult.l0 kq a0_0 x10_1 a0_0 l0_1 x543000_1 x543001_1 = some (r1, r2)) ∧ Aside0 (kq ≤ k) ∧ Aside0 (Kd.R (Kd.int .i64) 3 w' w.heap.size (fun k_ => some k_ ≠ (u543001 : Value).ownBlock) u543000 x543000_1) ∧ Aside0 (Kd.R (Kd.int .i64) 3 w' w.heap.size (fun k_ => some k_ ≠ (u543000 : Value).ownBlock) u543001 x543001_1) ∧ Aside0 (w'.heap[gb540]? = some (.cells #[.int .i64 a0_0, (.slice A0_1 l0_1.length c0_1)] 26 (0, 0))) ∧ Aside0 (w'.heap[gb541]? = some (.cells #[(.slice none 0 0), (.slice none 0 0)] 36 (0, 0))) ∧ Aside0 (w'.heap[gb542]? = some (.cells #[u543000, u543001] 36 (0, 0))) ∧ Aside0 (Below w.heap.size w w'))
 case atStart => exact ⟨(0), (([] : List Int)), (([] : List Int)), (.slice none 0 0), (.slice none 0 0), (by first | rfl | (simp; done) | (simp [*]; done)), H', ⟨Nat.le_refl _⟩, ⟨by first | exact Kd.R_nil _ _ _ _ _ | exact Kd.N_nil _ _ _ _ _ | exact Kd.V_nil _ _ _ _ _ | exact Kd.Q_nil _ _ _ _ _ | exact Kd.S_nil _ _ _ _ _⟩, ⟨by first | exact Kd.R_nil _ _ _ _ _ | exact Kd.N_nil _ _ _ _ _ | exact Kd.V_nil _ _ _ _ _ | exact Kd.Q_nil _ _ _ _ _ | exact Kd.S_nil _ _ _ _ _⟩, ⟨by (with_reducible repeat (first | refine blk_drewN ?_ _ | refine blk_drew ?_ | refine blk_alloc ?_ _)); refine blk_far ?_ NB540_542.out _; (with_reducible repeat (first | refine blk_drewN ?_ _ | refine blk_drew ?_ | refine blk_alloc ?_ _)); refine blk_far ?_ NB540_542.out _; (with_reducible repeat (first | refine blk_drewN ?_ _ | refine blk_drew ?_ | refine blk_alloc ?_ _)); exact BK540.out⟩, ⟨by (with_reducible repeat (first | refine blk_drewN ?_ _ | refine blk_drew ?_ | refine blk_alloc ?_ _)); refine blk_far ?_ NB541_542.out _; (with_reducible repeat (first | refine blk_drewN ?_ _ | refine blk_drew ?_ | refine blk_alloc ?_ _)); refine blk_far ?_ NB541_542.out _; (with_reducible repeat (first | refine blk_drewN ?_ _ | refine blk_drew ?_ | refine blk_alloc ?_ _)); exact BK541.out⟩, ⟨by (with_reducible repeat (first | refine blk_drewN ?_ _ | refine blk_drew ?_ | refine blk_alloc ?_ _)); refine blk_put (cs := #[.slice none 0 0, .slice none 0 0]) ?_ 1 _ rfl; (with_reducible repeat (first | refine blk_drewN ?_ _ | refine blk_drew ?_ | refine blk_alloc ?_ _)); refine blk_put (cs := #[.slice none 0 0, .slice none 0 0]) ?_ 0 _ rfl; (with_reducible repeat (first | refine blk_drewN ?_ _ | refine blk_drew ?_ | refine blk_alloc ?_ _)); exact BK542.out⟩, ⟨by repeat (first | (with_reducible first | exact HB.out | apply below_alloc | apply pw_below_drewN | apply below_drew1 | refine below_set ?_ GE540.out | refine below_set ?_ GE541.out | refine below_set ?_ GE542.out) | exact HB.out)⟩⟩
 case round =>
  clear H'
  try clear p2
  try clear c5
  try clear c6
  try clear c8
  try clear hcz7_0
  try clear hcz7_1
  try clear hcz9_0
  try clear hcz9_1
  try clear hfz7_0
  try clear hfz7_1
  try clear hfz9_0
  try clear hfz9_1
  obtain ⟨x10_1, x543000_1, x543001_1, u543000, u543001, rfl, HA, HK1, HO_543000, HO_543001, BK540, BK541, BK542, HB⟩ := hrel
  cases gk with
  | zero => exact absurd HA.out (by simp [impl_poleResult.l0])
  | succ k1 =>
   have H := HA.out
   clear HA
   simp only [impl_poleResult.l0] at H
   by_cases c10 : x10_1 < a0_0
   ·
    rw [if_pos c10] at H
    have c10b0 : decide (x10_1 < a0_0) = true := decide_eq_true c10
    clear c10
    replace H := Option.bind_eq_some_iff.mp H
    obtain ⟨⟨t543, t546⟩, A110, H⟩ := H
    replace H : (if 0 ≤ (wrap64 ((t543.length : Int) - 1)) then (if (wrap64 ((t543.length : Int) - 1)) < (t543.length : Int) then ((some (([rd t543 (wrap64 ((t543.length : Int) - 1))] : List Int) : List Int)).bind fun y548 => (if x543000_1.length + y548.length < 17592186044416 then ((some (([t546] : List Int) : List Int)).bind fun y554 => (if x543001_1.length + y554.length < 17592186044416 then (impl_poleResult.l0 k1 a0_0 (wrap64 (x10_1 + 1)) a0_0 l0_1 (x543000_1 ++ y548) (x543001_1 ++ y554)) else (none))) else (none))) else (none)) else (none)) = some (r1, r2) := H
    have A11 := Aside0.mk A110
    clear A110
    obtain ⟨ji12, hji12⟩ : ∃ j_ : Int, (wrap64 ((t543.length : Int) - 1)) = j_ := ⟨_, rfl⟩
    replace H : (if 0 ≤ (ji12) then (if (ji12) < (t543.length : Int) then ((some (([rd t543 (ji12)] : List Int) : List Int)).bind fun y548 => (if x543000_1.length + y548.length < 17592186044416 then ((some (([t546] : List Int) : List Int)).bind fun y554 => (if x543001_1.length + y554.length < 17592186044416 then (impl_poleResult.l0 k1 a0_0 (wrap64 (x10_1 + 1)) a0_0 l0_1 (x543000_1 ++ y548) (x543001_1 ++ y554)) else (none))) else (none))) else (none)) else (none)) = some (r1, r2) := by first | (rw [hji12] at H; exact H) | (simp only [hji12] at H ⊢; exact H)
    (try rw [hji12] at A11)
    have hji12w : (IntKind.i64.wrap ((t543.length : Int) - 1)) = ji12 := (i64_w _).trans hji12
    by_cases c13 : 0 ≤ (ji12)
    ·
     rw [if_pos c13] at H
     have c13b0 : decide (0 ≤ (ji12)) = true := decide_eq_true c13
     clear c13
     by_cases c14 : (ji12) < (t543.length : Int)
     ·
      rw [if_pos c14] at H
      have c14b0 : decide ((ji12) < (t543.length : Int)) = true := decide_eq_true c14
      clear c14
      obtain ⟨y548, hy548⟩ : ∃ y_ : List Int, y_ = (([rd t543 (ji12)] : List Int)) := ⟨_, rfl⟩
      replace H : (if x543000_1.length + y548.length < 17592186044416 then ((some (([t546] : List Int) : List Int)).bind fun y554 => (if x543001_1.length + y554.length < 17592186044416 then (impl_poleResult.l0 k1 a0_0 (wrap64 (x10_1 + 1)) a0_0 l0_1 (x543000_1 ++ y548) (x543001_1 ++ y554)) else (none))) else (none)) = some (r1, r2) := by first | (rw [hy548]; with_reducible exact H) | (have H2_ := (Option.bind_some _ _).symm.trans H; rw [hy548]; with_reducible exact H2_) | (have H2_ := (Option.bind_some _ _).symm.trans H; with_reducible exact H2_) | with_reducible exact H | (rw [hy548]; exact H) | exact H
      have Ny548 := Aside0.mk hy548
      clear hy548
      by_cases c15 : x543000_1.length + y548.length < 17592186044416
      ·
       rw [if_pos c15] at H
       have LMc15 := Aside0.mk c15
       clear c15
       obtain ⟨y551, hy551⟩ : ∃ y_ : List Int, y_ = (x543000_1 ++ y548) := ⟨_, rfl⟩
       replace H : ((some (([t546] : List Int) : List Int)).bind fun y554 => (if x543001_1.length + y554.length < 17592186044416 then (impl_poleResult.l0 k1 a0_0 (wrap64 (x10_1 + 1)) a0_0 l0_1 y551 (x543001_1 ++ y554)) else (none))) = some (r1, r2) := by first | (rw [hy551]; with_reducible exact H) | (have H2_ := (Option.bind_some _ _).symm.trans H; rw [hy551]; with_reducible exact H2_) | (have H2_ := (Option.bind_some _ _).symm.trans H; with_reducible exact H2_) | with_reducible exact H | (rw [hy551]; exact H) | exact H
       have Ny551 := Aside0.mk hy551
       clear hy551
       obtain ⟨y554, hy554⟩ : ∃ y_ : List Int, y_ = (([t546] : List Int)) := ⟨_, rfl⟩
       replace H : (if x543001_1.length + y554.length < 17592186044416 then (impl_poleResult.l0 k1 a0_0 (wrap64 (x10_1 + 1)) a0_0 l0_1 y551 (x543001_1 ++ y554)) else (none)) = some (r1, r2) := by first | (rw [hy554]; with_reducible exact H) | (have H2_ := (Option.bind_some _ _).symm.trans H; rw [hy554]; with_reducible exact H2_) | (have H2_ := (Option.bind_some _ _).symm.trans H; with_reducible exact H2_) | with_reducible exact H | (rw [hy554]; exact H) | exact H
       have Ny554 := Aside0.mk hy554
       clear hy554
       by_cases c16 : x543001_1.length + y554.length < 17592186044416
       ·
        rw [if_pos c16] at H
        have LMc16 := Aside0.mk c16
        clear c16
        obtain ⟨y557, hy557⟩ : ∃ y_ : List Int, y_ = (x543001_1 ++ y554) := ⟨_, rfl⟩
        replace H : (impl_poleResult.l0 k1 a0_0 (wrap64 (x10_1 + 1)) a0_0 l0_1 y551 y557) = some (r1, r2) := by first | (rw [hy557]; with_reducible exact H) | (have H2_ := (Option.bind_some _ _).symm.trans H; rw [hy557]; with_reducible exact H2_) | (have H2_ := (Option.bind_some _ _).symm.trans H; with_reducible exact H2_) | with_reducible exact H | (rw [hy557]; exact H) | exact H
        have Ny557 := Aside0.mk hy557
        clear hy557
        have H' := Aside0.mk H
        clear H
        have hnb17 := NB540_541.out
        have hnc17 := NB541_540.out
        have hnb18 := NB540_542.out
        have hnc18 := NB542_540.out
        have hcz19_0 : wr.cell? ⟨gb540, 0, none⟩ = some (.int .i64 a0_0) := (blk_cell BK540.out 0).trans rfl
        have hcz19_1 : wr.cell? ⟨gb540, 1, none⟩ = some (.slice A0_1 l0_1.length c0_1) := (blk_cell BK540.out 1).trans rfl
        have hfz19_0 := blk_frozen BK540.out 0
        have hfz19_1 := blk_frozen BK540.out 1
        try go_wp2_with (first | ((with_reducible refine gate_callee (f := 74) rfl ?_); refine goesL_ (some 16) rfl rfl Try.func74 (by kernel_rfl) rfl #[.agg #[.int .i64 a0_0, .slice A0_1 l0_1.length c0_1], .int .i64 x10_1] rfl (by (try simp only [List.map_toArray, List.map_cons, List.map_nil]); first | done | rfl | (simp only [List.length_drop, List.length_take]; rfl)) ?_; (with_reducible refine (impl_poleWay.calls k1 a0_0 _ _ l0_1 x10_1 t543 t546 _ ?side1 ?side2 A11.out).mono ?_); (case side1 => repeat (first | exact (Kd.C_below HR0_1.out HB.out) | (with_reducible refine Kd.C_alloc ?_ _) | (with_reducible refine Kd.C_drewN ?_ _) | (with_reducible refine Kd.C_drew ?_))); (case side2 => exact HC0_1.out); rintro e w20 ⟨v544, rfl, ho0, hb⟩; refine ⟨_, rfl, ?_⟩; have n0_ := Aside0.mk (Kd.R_elder' (by (with_reducible repeat (first | apply Kd.R_alloc | apply Kd.R_drewN | apply Kd.R_drew)); exact HO_543000.out) (Kd.R_base ho0) hb); have n1_ := Aside0.mk (Kd.R_elder' (by (with_reducible repeat (first | apply Kd.R_alloc | apply Kd.R_drewN | apply Kd.R_drew)); exact HO_543001.out) (Kd.R_base ho0) hb); have n2_ := Aside0.mk (Kd.R_lower (Kd.R_new' (Kd.R_new' ho0 (Kd.R_lt (by (with_reducible repeat (first | apply Kd.R_alloc | apply Kd.R_drewN | apply Kd.R_drew)); exact HO_543000.out))) (Kd.R_lt (by (with_reducible repeat (first | apply Kd.R_alloc | apply Kd.R_drewN | apply Kd.R_drew)); exact HO_543001.out))) (below_size (by repeat (first | (with_reducible first | exact HB.out | apply below_alloc | apply pw_below_drewN | apply below_drew1 | refine below_set ?_ GE540.out | refine below_set ?_ GE541.out | refine below_set ?_ GE542.out) | exact HB.out)))); have n3_ := Aside0.mk (blk_below (g := gb540) (o := .cells #[.int .i64 a0_0, .slice A0_1 l0_1.length c0_1] 26 (0, 0)) (by (with_reducible repeat (first | refine blk_drewN ?_ _ | refine blk_drew ?_ | refine blk_alloc ?_ _)); exact BK540.out) hb); have n4_ := Aside0.mk (blk_below (g := gb541) (o := .cells #[.slice none 0 0, .slice none 0 0] 36 (0, 0)) (by (with_reducible repeat (first | refine blk_drewN ?_ _ | refine blk_drew ?_ | refine blk_alloc ?_ _)); exact BK541.out) hb); have n5_ := Aside0.mk (blk_below (g := gb542) (o := .cells #[u543000, u543001] 36 (0, 0)) (by (with_reducible repeat (first | refine blk_drewN ?_ _ | refine blk_drew ?_ | refine blk_alloc ?_ _)); exact BK542.out) hb); have n6_ := Aside0.mk (below_step (by repeat (first | (with_reducible first | exact HB.out | apply below_alloc | apply pw_below_drewN | apply below_drew1 | refine below_set ?_ GE540.out | refine below_set ?_ GE541.out | refine below_set ?_ GE542.out) | exact HB.out)) hb); clear HO_543000; clear HO_543001; clear BK540; clear BK541; clear BK542; clear HB; have HO_543000 := n0_; have HO_543001 := n1_; have HO545 := n2_; have BK540 := n3_; have BK541 := n4_; have BK542 := n5_; have HB := n6_; clear n0_ n1_ n2_ n3_ n4_ n5_ n6_; (try clear hb); (try clear hb2); (try clear hk); (try clear hi); (try clear ho0); obtain ⟨Ao21, co21, eo21⟩ := Kd.R_slice HO_543000.out; subst eo21; obtain ⟨Ao22, co22, eo22⟩ := Kd.R_slice HO_543001.out; subst eo22))
        have n0_ := Aside0.mk (Kd.R_drew HO_543000.out)
        have n1_ := Aside0.mk (Kd.R_drew HO_543001.out)
        have n2_ := Aside0.mk (Kd.R_drew HO545.out)
        have n3_ := Aside0.mk (blk_drew BK540.out)
        have n4_ := Aside0.mk (blk_drew BK541.out)
        have n5_ := Aside0.mk (blk_drew BK542.out)
        have n6_ := Aside0.mk (below_drew1 HB.out)
        clear HO_543000
        clear HO_543001
        clear HO545
        clear BK540
        clear BK541
        clear BK542
        clear HB
        have HO_543000 := n0_
        have HO_543001 := n1_
        have HO545 := n2_
        have BK540 := n3_
        have BK541 := n4_
        have BK542 := n5_
        have HB := n6_
        clear n0_ n1_ n2_ n3_ n4_ n5_ n6_
        obtain ⟨Ao24, co24, eo24⟩ := Kd.R_slice HO545.out
        (first | subst eo24 | (injection eo24 with f1_ f2_ f3_; have f4_ := f1_.symm; have f5_ := f3_.symm; clear f1_ f2_ f3_; subst f4_; subst f5_))
        have p547 : 0 ≤ ((ji12) : Int) := of_decide_eq_true (by first | (with_reducible assumption) | assumption)
        have q547 : (ji12) < (t543.length : Int) := of_decide_eq_true (by first | (with_reducible assumption) | assumption)
        obtain ⟨ad547, e547, hx547_0⟩ := Kd.at_int (Kd.R_reads' HO545.out).2.2 (ji12) p547 q547
        cases e547
        replace p547 := eq_true p547
        replace q547 := eq_true q547
        refine start_ (n := 19) (S := fun w' => w'.cell? ⟨gb542, 0, none⟩ = some (.slice Ao21 x543000_1.length co21) ∧ w'.cell? ⟨gb542, 1, none⟩ = some (.slice Ao22 x543001_1.length co22) ∧ w'.cell? (ad547.add ((ji12)).toNat) = some (.int .i64 (rd t543 (ji12)))) (ds := [16, 18]) #[false, false, false, false, false, false, false, false, false, false, false, false, false, false, false, false, false, false, false] (by kernel_rfl) rfl rfl ⟨(blk_cell BK542.out 0).trans rfl, (blk_cell BK542.out 1).trans rfl, hx547_0⟩ (fun hHeld => ?_); refine with_tabW impl_poleResult.tab6 impl_poleResult.bits6 (fun HT_ HW_ => ?_)
        generalize w20.drew = w23 at HO_543000 HO_543001 HO545 BK540 BK541 BK542 HB hx547_0 hHeld ⊢
        refine pure_ (i := 0) (N := some 19) (v := ?_) (a' := ?_) #[true, false, false, false, false, false, false, false, false, false, false, false, false, false, false, false, false, false, false] rfl rfl (any_of HT_.out (by kernel_rfl)) (fun _ _ _ h => h) (Or.inl ⟨by rfl, ?_⟩) ?_ ?_
        rotate_left
        ·
         intro w'
         go_simp
         with_reducible rfl
        rotate_left
        ·
         simp only [Act.put, List.setIfInBounds_toArray, List.set_cons_zero, List.set_cons_succ, i64_w, i32_w]
         rfl
        refine pure_ (i := 2) (N := some 21) (v := ?_) (a' := ?_) #[true, false, true, false, false, false, false, false, false, false, false, false, false, false, false, false, false, false, false] rfl rfl (any_of HT_.out (by kernel_rfl)) (fun _ _ _ h => h) (Or.inl ⟨by rfl, ?_⟩) ?_ ?_
        rotate_left
        ·
         intro w'
         go_simp
         with_reducible rfl
        rotate_left
        ·
         simp only [Act.put, List.setIfInBounds_toArray, List.set_cons_zero, List.set_cons_succ, i64_w, i32_w]
         rfl
        refine pure_ (i := 3) (N := some 22) (v := ?_) (a' := ?_) #[true, false, true, true, false, false, false, false, false, false, false, false, false, false, false, false, false, false, false] rfl rfl (any_of HT_.out (by kernel_rfl)) (fun _ _ _ h => h) (Or.inl ⟨by rfl, ?_⟩) ?_ ?_
        rotate_left
        ·
         intro w'
         go_simp
         with_reducible rfl
        rotate_left
        ·
         simp only [Act.put, List.setIfInBounds_toArray, List.set_cons_zero, List.set_cons_succ, i64_w, i32_w]
         rfl
        refine pure_ (i := 4) (N := some 23) (v := ?_) (a' := ?_) #[true, false, true, true, true, false, false, false, false, false, false, false, false, false, false, false, false, false, false] rfl rfl (any_of HT_.out (by kernel_rfl)) (fun _ _ _ h => h) (Or.inl ⟨by rfl, ?_⟩) ?_ ?_
        rotate_left
        ·
         intro w'
         go_simp
         with_reducible rfl
        rotate_left
        ·
         simp only [Act.put, List.setIfInBounds_toArray, List.set_cons_zero, List.set_cons_succ, i64_w, i32_w]
         rfl
        refine pure_ (i := 5) (N := some 24) (v := ?_) (a' := ?_) #[true, false, true, true, true, true, false, false, false, false, false, false, false, false, false, false, false, false, false] rfl rfl (any_of HT_.out (by kernel_rfl)) (fun _ _ _ h => h) (Or.inl ⟨by rfl, ?_⟩) ?_ ?_
        rotate_left
        ·
         intro w'
         go_simp
         with_reducible rfl
        rotate_left
        ·
         simp only [Act.put, List.setIfInBounds_toArray, List.set_cons_zero, List.set_cons_succ, i64_w, i32_w]
         rfl
        refine pure_ (i := 6) (N := some 25) (v := ?_) (a' := ?_) #[true, false, true, true, true, true, true, false, false, false, false, false, false, false, false, false, false, false, false] rfl rfl (any_of HT_.out (by kernel_rfl)) (fun _ _ _ h => h) (Or.inl ⟨by rfl, ?_⟩) ?_ ?_
        rotate_left
        ·
         intro w'
         go_simp
         with_reducible rfl
        rotate_left
        ·
         simp only [Act.put, List.setIfInBounds_toArray, List.set_cons_zero, List.set_cons_succ, i64_w, i32_w]
         rfl
        refine pure_ (i := 10) (N := some 29) (v := ?_) (a' := ?_) #[true, false, true, true, true, true, true, false, false, false, true, false, false, false, false, false, false, false, false] rfl rfl (any_of HT_.out (by kernel_rfl)) (fun _ _ _ h => h) (Or.inl ⟨by rfl, ?_⟩) ?_ ?_
        rotate_left
        ·
         intro w'
         go_simp
         with_reducible rfl
        rotate_left
        ·
         simp only [Act.put, List.setIfInBounds_toArray, List.set_cons_zero, List.set_cons_succ, i64_w, i32_w]
         rfl
        refine pure_ (i := 12) (N := some 31) (v := ?_) (a' := ?_) #[true, false, true, true, true, true, true, false, false, false, true, false, true, false, false, false, false, false, false] rfl rfl (any_of HT_.out (by kernel_rfl)) (fun _ _ _ h => h) (Or.inl ⟨by rfl, ?_⟩) ?_ ?_
        rotate_left
        ·
         intro w'
         go_simp
         with_reducible rfl
        rotate_left
        ·
         simp only [Act.put, List.setIfInBounds_toArray, List.set_cons_zero, List.set_cons_succ, i64_w, i32_w]
         rfl
        refine take_ (i := 1) (N := some 20) (v := ?_) (a' := ?_) #[true, true, true, true, true, true, true, false, false, false, true, false, true, false, false, false, false, false, false] rfl rfl (take_ofW HT_.out HW_.out (by kernel_rfl)) (fun _ _ _ h => h) (Or.inl ⟨by rfl, ?_⟩) hHeld ?_ ?_
        rotate_left
        ·
         rintro w' ⟨s0, s1, s2⟩
         go_simp
         with_reducible rfl
        rotate_left
        ·
         simp only [Act.put, List.setIfInBounds_toArray, List.set_cons_zero, List.set_cons_succ, i64_w, i32_w]
         rfl
        refine take_ (i := 7) (N := some 26) (v := ?_) (a' := ?_) #[true, true, true, true, true, true, true, true, false, false, true, false, true, false, false, false, false, false, false] rfl rfl (take_ofW HT_.out HW_.out (by kernel_rfl)) (fun _ _ _ h => h) (Or.inl ⟨by rfl, ?_⟩) hHeld ?_ ?_
        rotate_left
        ·
         rintro w' ⟨s0, s1, s2⟩
         go_simp
         with_reducible rfl
        rotate_left
        ·
         simp only [Act.put, List.setIfInBounds_toArray, List.set_cons_zero, List.set_cons_succ, i64_w, i32_w]
         rfl
        refine take_ (i := 11) (N := some 30) (v := ?_) (a' := ?_) #[true, true, true, true, true, true, true, true, false, false, true, true, true, false, false, false, false, false, false] rfl rfl (take_ofW HT_.out HW_.out (by kernel_rfl)) (fun _ _ _ h => h) (Or.inl ⟨by rfl, ?_⟩) hHeld ?_ ?_
        rotate_left
        ·
         rintro w' ⟨s0, s1, s2⟩
         go_simp
         with_reducible rfl
        rotate_left
        ·
         simp only [Act.put, List.setIfInBounds_toArray, List.set_cons_zero, List.set_cons_succ, i64_w, i32_w]
         rfl
        refine join_ (σ := Value × Value × Value) 4 #[true, true, true, true, true, true, true, true, true, true, true, true, true, true, false, true, false, false, false] (fun s_ => [(27, s_.1), (28, s_.2.1), (32, s_.2.2), (34, .pointer (some ⟨gb542, 0, none⟩))]) (fun s_ w' => (w'.cell? ⟨gb542, 0, none⟩ = some (.slice Ao21 x543000_1.length co21) ∧ w'.cell? ⟨gb542, 1, none⟩ = some (.slice Ao22 x543001_1.length co22) ∧ w'.cell? (ad547.add ((ji12)).toNat) = some (.int .i64 (rd t543 (ji12)))) ∧ (Kd.R (Kd.int .i64) 3 w' w.heap.size (fun k_ => some k_ ≠ (s_.1 : Value).ownBlock ∧ some k_ ≠ (s_.2.1 : Value).ownBlock ∧ some k_ ≠ (s_.2.2 : Value).ownBlock ∧ some k_ ≠ (.slice Ao22 x543001_1.length co22 : Value).ownBlock) (.slice (some ad547) t543.length co24) t543) ∧ (Kd.R (Kd.int .i64) 3 w' w.heap.size (fun k_ => some k_ ≠ (.slice (some ad547) t543.length co24 : Value).ownBlock ∧ some k_ ≠ (s_.2.1 : Value).ownBlock ∧ some k_ ≠ (s_.2.2 : Value).ownBlock ∧ some k_ ≠ (.slice Ao22 x543001_1.length co22 : Value).ownBlock) s_.1 y548) ∧ (Kd.R (Kd.int .i64) 3 w' w.heap.size (fun k_ => some k_ ≠ (.slice (some ad547) t543.length co24 : Value).ownBlock ∧ some k_ ≠ (s_.1 : Value).ownBlock ∧ some k_ ≠ (s_.2.2 : Value).ownBlock ∧ some k_ ≠ (.slice Ao22 x543001_1.length co22 : Value).ownBlock) s_.2.1 y551) ∧ (Kd.R (Kd.int .i64) 3 w' w.heap.size (fun k_ => some k_ ≠ (.slice (some ad547) t543.length co24 : Value).ownBlock ∧ some k_ ≠ (s_.1 : Value).ownBlock ∧ some k_ ≠ (s_.2.1 : Value).ownBlock ∧ some k_ ≠ (.slice Ao22 x543001_1.length co22 : Value).ownBlock) s_.2.2 y554) ∧ (Kd.R (Kd.int .i64) 3 w' w.heap.size (fun k_ => some k_ ≠ (.slice (some ad547) t543.length co24 : Value).ownBlock ∧ some k_ ≠ (s_.1 : Value).ownBlock ∧ some k_ ≠ (s_.2.1 : Value).ownBlock ∧ some k_ ≠ (s_.2.2 : Value).ownBlock) (.slice Ao22 x543001_1.length co22) x543001_1) ∧ (w'.heap[gb540]? = some (.cells #[.int .i64 a0_0, .slice A0_1 l0_1.length c0_1] 26 (0, 0))) ∧ (w'.heap[gb541]? = some (.cells #[.slice none 0 0, .slice none 0 0] 36 (0, 0))) ∧ (w'.heap[gb542]? = some (.cells #[.slice Ao21 x543000_1.length co21, .slice Ao22 x543001_1.length co22] 36 (0, 0))) ∧ (Below w.heap.size w w')) ?_ ?_
        rotate_left
        ·
         intro hCont
         refine two_ (i := 8) (j := 13) (Ni := some 27) (Nj := some 32) #[true, true, true, true, true, true, true, true, true, false, true, true, true, false, false, false, false, false, false] #[true, true, true, true, true, true, true, true, false, false, true, true, true, true, false, false, false, false, false] rfl rfl rfl rfl (two_of HT_.out (by kernel_rfl)) (by decide) (by decide) (fun K hK => ?_) (fun K hK => ?_)
         ·
          skip
          refine Kd.R_lit_step (Kd.int .i64) _ 3 ?hg (N := 27) ?hd (xs := ([rd t543 (ji12)] : List Int)) (inner := [.int .i64 (rd t543 (ji12))]) (ok := fun _ => True) (okp := fun _ => True) ?hr ?hp (fun _ hk => hk) trivial (Below.refl _ _) (Nat.le_refl _) (by simp) ?_; (case hd => rfl); (case hg => rfl); (case hr => first | (go_simp; done) | (go_simp; rfl)); (case hp => exact (Reps.one (show Kd.M (Kd.int .i64) _ _ _ (rd t543 (ji12)) [.int .i64 (rd t543 (ji12))] from rfl) (Reps.none _ _)))
          intro v549 w25 ho26 hb hg_ hnew_
          have HS2_ := (hb.cell (World.block_lt_of_cell? _ _ (hHeld.2.2))).trans (hHeld.2.2)
          clear hg_ hnew_
          (first | rw [← Ny548.out] at ho26 | (simp only [Int.reduceToNat] at ho26; rw [← Ny548.out] at ho26))
          have n0_ := Aside0.mk (Kd.R_elder' (by (with_reducible repeat (first | apply Kd.R_alloc | apply Kd.R_drewN | apply Kd.R_drew)); exact HO_543000.out) (Kd.R_base ho26) hb)
          have n1_ := Aside0.mk (Kd.R_elder' (by (with_reducible repeat (first | apply Kd.R_alloc | apply Kd.R_drewN | apply Kd.R_drew)); exact HO_543001.out) (Kd.R_base ho26) hb)
          have n2_ := Aside0.mk (Kd.R_elder' (by (with_reducible repeat (first | apply Kd.R_alloc | apply Kd.R_drewN | apply Kd.R_drew)); exact HO545.out) (Kd.R_base ho26) hb)
          have n3_ := Aside0.mk (Kd.R_lower (Kd.R_new' (Kd.R_new' (Kd.R_new' ho26 (Kd.R_lt (by (with_reducible repeat (first | apply Kd.R_alloc | apply Kd.R_drewN | apply Kd.R_drew)); exact HO_543000.out))) (Kd.R_lt (by (with_reducible repeat (first | apply Kd.R_alloc | apply Kd.R_drewN | apply Kd.R_drew)); exact HO_543001.out))) (Kd.R_lt (by (with_reducible repeat (first | apply Kd.R_alloc | apply Kd.R_drewN | apply Kd.R_drew)); exact HO545.out))) (below_size (by repeat (first | (with_reducible first | exact HB.out | apply below_alloc | apply pw_below_drewN | apply below_drew1 | refine below_set ?_ GE540.out | refine below_set ?_ GE541.out | refine below_set ?_ GE542.out) | exact HB.out))))
          have n4_ := Aside0.mk (blk_below (g := gb540) (o := .cells #[.int .i64 a0_0, .slice A0_1 l0_1.length c0_1] 26 (0, 0)) (by (with_reducible repeat (first | refine blk_drewN ?_ _ | refine blk_drew ?_ | refine blk_alloc ?_ _)); exact BK540.out) hb)
          have n5_ := Aside0.mk (blk_below (g := gb541) (o := .cells #[.slice none 0 0, .slice none 0 0] 36 (0, 0)) (by (with_reducible repeat (first | refine blk_drewN ?_ _ | refine blk_drew ?_ | refine blk_alloc ?_ _)); exact BK541.out) hb)
          have n6_ := Aside0.mk (blk_below (g := gb542) (o := .cells #[.slice Ao21 x543000_1.length co21, .slice Ao22 x543001_1.length co22] 36 (0, 0)) (by (with_reducible repeat (first | refine blk_drewN ?_ _ | refine blk_drew ?_ | refine blk_alloc ?_ _)); exact BK542.out) hb)
          have n7_ := Aside0.mk (below_step (by repeat (first | (with_reducible first | exact HB.out | apply below_alloc | apply pw_below_drewN | apply below_drew1 | refine below_set ?_ GE540.out | refine below_set ?_ GE541.out | refine below_set ?_ GE542.out) | exact HB.out)) hb)
          clear HO_543000
          clear HO_543001
          clear HO545
          clear BK540
          clear BK541
          clear BK542
          clear HB
          have HO_543000 := n0_
          have HO_543001 := n1_
          have HO545 := n2_
          have HO550 := n3_
          have BK540 := n4_
          have BK541 := n5_
          have BK542 := n6_
          have HB := n7_
          clear n0_ n1_ n2_ n3_ n4_ n5_ n6_ n7_
          clear hb ho26
          obtain ⟨Ao28, co28, eo28⟩ := Kd.R_slice HO550.out
          (first | subst eo28 | (injection eo28 with f1_ f2_ f3_; have f4_ := f1_.symm; have f5_ := f3_.symm; clear f1_ f2_ f3_; subst f4_; subst f5_))
          refine hK.out _ _ ⟨(blk_cell BK542.out 0).trans rfl, (blk_cell BK542.out 1).trans rfl, HS2_⟩ (fun hHeld => ?_)
          clear hK K
          refine norm_ (a' := ?_) ?_ ?_
          rotate_left
          ·
           show Act.put _ (some 27) _ = _
           simp only [Act.put, List.setIfInBounds_toArray, List.set_cons_zero, List.set_cons_succ, i64_w, i32_w]
           rfl
          refine two_ (i := 9) (j := 13) (Ni := some 28) (Nj := some 32) #[true, true, true, true, true, true, true, true, true, true, true, true, true, false, false, false, false, false, false] #[true, true, true, true, true, true, true, true, true, false, true, true, true, true, false, false, false, false, false] rfl rfl rfl rfl (two_of HT_.out (by kernel_rfl)) (by decide) (by decide) (fun K hK => ?_) (fun K hK => ?_)
          ·
           skip
           refine Kd.R_append_rows_step (Kd.int .i64) (w0 := w) w.heap.size (by rfl) (.tmp 20) (.tmp 27) 22 3 (.int .i64 0) 8 rfl Try.underlying22 info3 rfl (by decide) (by omega) (.slice Ao21 x543000_1.length co21) x543000_1 y548 _ _ _ (fun k_ => some k_ ≠ (.slice Ao22 x543001_1.length co22 : Value).ownBlock ∧ some k_ ≠ (.slice (some ad547) t543.length co24 : Value).ownBlock ∧ some k_ ≠ (.slice Ao28 y548.length co28 : Value).ownBlock) (fun _ => False) rfl rfl ?aO ?aR (fun _ _ h => h) (fun _ h => h.elim) ?aF ?aB ?aS ?aL ?_
           (case aR => repeat (first | exact (Kd.R_reads' HO550.out).2.2 | (with_reducible refine Kd.C_alloc ?_ _) | (with_reducible refine Kd.C_drewN ?_ _) | (with_reducible refine Kd.C_drew ?_)))
           (case aB => exact (by repeat (first | (with_reducible first | exact HB.out | apply below_alloc | apply pw_below_drewN | apply below_drew1 | refine below_set ?_ GE540.out | refine below_set ?_ GE541.out | refine below_set ?_ GE542.out) | exact HB.out)))
           (case aF => exact (fun k_ hk => ⟨Kd.fresh' (Kd.R_lt (by (with_reducible repeat (first | apply Kd.R_alloc | apply Kd.R_drewN | apply Kd.R_drew)); exact HO_543001.out)) k_ hk, Kd.fresh' (Kd.R_lt (by (with_reducible repeat (first | apply Kd.R_alloc | apply Kd.R_drewN | apply Kd.R_drew)); exact HO545.out)) k_ hk, Kd.fresh' (Kd.R_lt (by (with_reducible repeat (first | apply Kd.R_alloc | apply Kd.R_drewN | apply Kd.R_drew)); exact HO550.out)) k_ hk⟩))
           (case aO => exact (by (with_reducible repeat (first | apply Kd.R_alloc | apply Kd.R_drewN | apply Kd.R_drew)); exact Kd.R_mono HO_543000.out (fun _ hk => ⟨hk.1.1, ⟨hk.1.2, hk.2⟩⟩)))
           (case aS => exact (below_size (by repeat (first | (with_reducible first | exact HB.out | apply below_alloc | apply pw_below_drewN | apply below_drew1 | refine below_set ?_ GE540.out | refine below_set ?_ GE541.out | refine below_set ?_ GE542.out) | exact HB.out))))
           (case aL => have := LMc15.out; omega)
           intro v552 w27 ho hb hg hat
           (first | have HS2_ := cell_grown hg (hHeld.2.2) (by first | (rw [add_block]; exact (by have h_ := HO545.out.1 _ rfl; first | exact h_ | exact h_.1 | exact h_.2 | exact h_.1.1 | exact h_.1.2 | exact h_.2.1 | exact h_.2.2 | exact h_.1.1.1 | exact h_.1.1.2 | exact h_.1.2.1 | exact h_.1.2.2 | exact h_.2.1.1 | exact h_.2.1.2 | exact h_.2.2.1 | exact h_.2.2.2 | exact h_.1.1.1.1 | exact h_.1.1.1.2 | exact h_.1.1.2.1 | exact h_.1.1.2.2 | exact h_.1.2.1.1 | exact h_.1.2.1.2 | exact h_.1.2.2.1 | exact h_.1.2.2.2 | exact fun e_ => absurd (HO_543000.out.1 _ e_.symm) (by simp))) | (show some (Addr.add _ _).block ≠ _; rw [add_block]; exact (by have h_ := HO545.out.1 _ rfl; first | exact h_ | exact h_.1 | exact h_.2 | exact h_.1.1 | exact h_.1.2 | exact h_.2.1 | exact h_.2.2 | exact h_.1.1.1 | exact h_.1.1.2 | exact h_.1.2.1 | exact h_.1.2.2 | exact h_.2.1.1 | exact h_.2.1.2 | exact h_.2.2.1 | exact h_.2.2.2 | exact h_.1.1.1.1 | exact h_.1.1.1.2 | exact h_.1.1.2.1 | exact h_.1.1.2.2 | exact h_.1.2.1.1 | exact h_.1.2.1.2 | exact h_.1.2.2.1 | exact h_.1.2.2.2 | exact fun e_ => absurd (HO_543000.out.1 _ e_.symm) (by simp))) | exact (by have h_ := HO545.out.1 _ rfl; first | exact h_ | exact h_.1 | exact h_.2 | exact h_.1.1 | exact h_.1.2 | exact h_.2.1 | exact h_.2.2 | exact h_.1.1.1 | exact h_.1.1.2 | exact h_.1.2.1 | exact h_.1.2.2 | exact h_.2.1.1 | exact h_.2.1.2 | exact h_.2.2.1 | exact h_.2.2.2 | exact h_.1.1.1.1 | exact h_.1.1.1.2 | exact h_.1.1.2.1 | exact h_.1.1.2.2 | exact h_.1.2.1.1 | exact h_.1.2.1.2 | exact h_.1.2.2.1 | exact h_.1.2.2.2 | exact fun e_ => absurd (HO_543000.out.1 _ e_.symm) (by simp))) | have HS2_ := cell_grown hg (cell_unalloc (hHeld.2.2) (by first | (rw [add_block]; exact Kd.R_lt HO545.out _ rfl) | (show (Addr.add _ _).block < _; rw [add_block]; exact Kd.R_lt HO545.out _ rfl) | exact Kd.R_lt HO545.out _ rfl)) (by first | (rw [add_block]; exact (by have h_ := HO545.out.1 _ rfl; first | exact h_ | exact h_.1 | exact h_.2 | exact h_.1.1 | exact h_.1.2 | exact h_.2.1 | exact h_.2.2 | exact h_.1.1.1 | exact h_.1.1.2 | exact h_.1.2.1 | exact h_.1.2.2 | exact h_.2.1.1 | exact h_.2.1.2 | exact h_.2.2.1 | exact h_.2.2.2 | exact h_.1.1.1.1 | exact h_.1.1.1.2 | exact h_.1.1.2.1 | exact h_.1.1.2.2 | exact h_.1.2.1.1 | exact h_.1.2.1.2 | exact h_.1.2.2.1 | exact h_.1.2.2.2 | exact fun e_ => absurd (HO_543000.out.1 _ e_.symm) (by simp))) | (show some (Addr.add _ _).block ≠ _; rw [add_block]; exact (by have h_ := HO545.out.1 _ rfl; first | exact h_ | exact h_.1 | exact h_.2 | exact h_.1.1 | exact h_.1.2 | exact h_.2.1 | exact h_.2.2 | exact h_.1.1.1 | exact h_.1.1.2 | exact h_.1.2.1 | exact h_.1.2.2 | exact h_.2.1.1 | exact h_.2.1.2 | exact h_.2.2.1 | exact h_.2.2.2 | exact h_.1.1.1.1 | exact h_.1.1.1.2 | exact h_.1.1.2.1 | exact h_.1.1.2.2 | exact h_.1.2.1.1 | exact h_.1.2.1.2 | exact h_.1.2.2.1 | exact h_.1.2.2.2 | exact fun e_ => absurd (HO_543000.out.1 _ e_.symm) (by simp))) | exact (by have h_ := HO545.out.1 _ rfl; first | exact h_ | exact h_.1 | exact h_.2 | exact h_.1.1 | exact h_.1.2 | exact h_.2.1 | exact h_.2.2 | exact h_.1.1.1 | exact h_.1.1.2 | exact h_.1.2.1 | exact h_.1.2.2 | exact h_.2.1.1 | exact h_.2.1.2 | exact h_.2.2.1 | exact h_.2.2.2 | exact h_.1.1.1.1 | exact h_.1.1.1.2 | exact h_.1.1.2.1 | exact h_.1.1.2.2 | exact h_.1.2.1.1 | exact h_.1.2.1.2 | exact h_.1.2.2.1 | exact h_.1.2.2.2 | exact fun e_ => absurd (HO_543000.out.1 _ e_.symm) (by simp))))
           rw [← Ny551.out] at ho
           have n0_ := Aside0.mk (Kd.R_after (ok := (fun k_ => some k_ ≠ (.slice (some ad547) t543.length co24 : Value).ownBlock ∧ some k_ ≠ (.slice Ao28 y548.length co28 : Value).ownBlock)) (by (with_reducible repeat (first | apply Kd.R_alloc | apply Kd.R_drewN | apply Kd.R_drew)); exact Kd.R_mono HO_543001.out (fun _ hk => ⟨⟨hk.1.2, hk.2⟩, hk.1.1⟩)) hg hat)
           have n1_ := Aside0.mk (blk_grown (g := gb540) (o := .cells #[.int .i64 a0_0, .slice A0_1 l0_1.length c0_1] 26 (0, 0)) (by (with_reducible repeat (first | refine blk_drewN ?_ _ | refine blk_drew ?_ | refine blk_alloc ?_ _)); exact BK540.out) hg (Kd.R_ne HO_543000.out BK540.out (by decide)))
           have n2_ := Aside0.mk (blk_grown (g := gb541) (o := .cells #[.slice none 0 0, .slice none 0 0] 36 (0, 0)) (by (with_reducible repeat (first | refine blk_drewN ?_ _ | refine blk_drew ?_ | refine blk_alloc ?_ _)); exact BK541.out) hg (Kd.R_ne HO_543000.out BK541.out (by decide)))
           have n3_ := Aside0.mk (blk_grown (g := gb542) (o := .cells #[.slice Ao21 x543000_1.length co21, .slice Ao22 x543001_1.length co22] 36 (0, 0)) (by (with_reducible repeat (first | refine blk_drewN ?_ _ | refine blk_drew ?_ | refine blk_alloc ?_ _)); exact BK542.out) hg (Kd.R_ne HO_543000.out BK542.out (by decide)))
           have n4_ := Aside0.mk (Kd.R_after (ok := (fun k_ => some k_ ≠ (.slice Ao22 x543001_1.length co22 : Value).ownBlock ∧ some k_ ≠ (.slice Ao28 y548.length co28 : Value).ownBlock)) (by (with_reducible repeat (first | apply Kd.R_alloc | apply Kd.R_drewN | apply Kd.R_drew)); exact Kd.R_mono HO545.out (fun _ hk => ⟨⟨hk.1.2, hk.2⟩, hk.1.1.2⟩)) hg hat)
           have n5_ := Aside0.mk (Kd.R_after (ok := (fun k_ => some k_ ≠ (.slice Ao22 x543001_1.length co22 : Value).ownBlock ∧ some k_ ≠ (.slice (some ad547) t543.length co24 : Value).ownBlock)) (by (with_reducible repeat (first | apply Kd.R_alloc | apply Kd.R_drewN | apply Kd.R_drew)); exact Kd.R_mono HO550.out (fun _ hk => ⟨⟨hk.1.2, hk.2⟩, hk.1.1.2⟩)) hg hat)
           have n6_ := Aside0.mk (hb)
           have n7_ := Aside0.mk (ho)
           clear HO_543001
           clear BK540
           clear BK541
           clear BK542
           clear HO545
           clear HO550
           clear HB
           clear HO_543000
           have HO_543001 := n0_
           have BK540 := n1_
           have BK541 := n2_
           have BK542 := n3_
           have HO545 := n4_
           have HO550 := n5_
           have HB := n6_
           have HO553 := n7_
           clear n0_ n1_ n2_ n3_ n4_ n5_ n6_ n7_
           clear ho hb hg hat
           refine hK.out _ _ ⟨(blk_cell BK542.out 0).trans rfl, (blk_cell BK542.out 1).trans rfl, HS2_⟩ (fun hHeld => ?_)
           clear hK K
           refine norm_ (a' := ?_) ?_ ?_
           rotate_left
           ·
            show Act.put _ (some 28) _ = _
            simp only [Act.put, List.setIfInBounds_toArray, List.set_cons_zero, List.set_cons_succ, i64_w, i32_w]
            rfl
           refine pure_ (i := 15) (N := some 34) (v := ?_) (a' := ?_) #[true, true, true, true, true, true, true, true, true, true, true, true, true, false, false, true, false, false, false] rfl rfl (any_of HT_.out (by kernel_rfl)) (fun _ _ _ h => h) (Or.inl ⟨by rfl, ?_⟩) ?_ ?_
           rotate_left
           ·
            intro w'
            go_simp
            with_reducible rfl
           rotate_left
           ·
            simp only [Act.put, List.setIfInBounds_toArray, List.set_cons_zero, List.set_cons_succ, i64_w, i32_w]
            rfl
           refine one_ (i := 13) (N := some 32) #[true, true, true, true, true, true, true, true, true, true, true, true, true, true, false, true, false, false, false] rfl rfl (one_of HT_.out (by kernel_rfl)) (by decide) (fun K hK => ?_)
           refine Kd.R_lit_step (Kd.int .i64) _ 3 ?hg (N := 32) ?hd (xs := ([t546] : List Int)) (inner := [.int .i64 t546]) (ok := fun _ => True) (okp := fun _ => True) ?hr ?hp (fun _ hk => hk) trivial (Below.refl _ _) (Nat.le_refl _) (by simp) ?_; (case hd => rfl); (case hg => rfl); (case hr => first | (go_simp; done) | (go_simp; rfl)); (case hp => exact (Reps.one (show Kd.M (Kd.int .i64) _ _ _ t546 [.int .i64 t546] from rfl) (Reps.none _ _)))
           intro v555 w29 ho30 hb hg_ hnew_
           have HS2_ := (hb.cell (World.block_lt_of_cell? _ _ (hHeld.2.2))).trans (hHeld.2.2)
           clear hg_ hnew_
           (first | rw [← Ny554.out] at ho30 | (simp only [Int.reduceToNat] at ho30; rw [← Ny554.out] at ho30))
           have n0_ := Aside0.mk (Kd.R_elder' (by (with_reducible repeat (first | apply Kd.R_alloc | apply Kd.R_drewN | apply Kd.R_drew)); exact HO_543001.out) (Kd.R_base ho30) hb)
           have n1_ := Aside0.mk (Kd.R_elder' (by (with_reducible repeat (first | apply Kd.R_alloc | apply Kd.R_drewN | apply Kd.R_drew)); exact HO545.out) (Kd.R_base ho30) hb)
           have n2_ := Aside0.mk (Kd.R_elder' (by (with_reducible repeat (first | apply Kd.R_alloc | apply Kd.R_drewN | apply Kd.R_drew)); exact HO550.out) (Kd.R_base ho30) hb)
           have n3_ := Aside0.mk (Kd.R_elder' (by (with_reducible repeat (first | apply Kd.R_alloc | apply Kd.R_drewN | apply Kd.R_drew)); exact HO553.out) (Kd.R_base ho30) hb)
           have n4_ := Aside0.mk (Kd.R_lower (Kd.R_new' (Kd.R_new' (Kd.R_new' (Kd.R_new' ho30 (Kd.R_lt (by (with_reducible repeat (first | apply Kd.R_alloc | apply Kd.R_drewN | apply Kd.R_drew)); exact HO_543001.out))) (Kd.R_lt (by (with_reducible repeat (first | apply Kd.R_alloc | apply Kd.R_drewN | apply Kd.R_drew)); exact HO545.out))) (Kd.R_lt (by (with_reducible repeat (first | apply Kd.R_alloc | apply Kd.R_drewN | apply Kd.R_drew)); exact HO550.out))) (Kd.R_lt (by (with_reducible repeat (first | apply Kd.R_alloc | apply Kd.R_drewN | apply Kd.R_drew)); exact HO553.out))) (below_size (by repeat (first | (with_reducible first | exact HB.out | apply below_alloc | apply pw_below_drewN | apply below_drew1 | refine below_set ?_ GE540.out | refine below_set ?_ GE541.out | refine below_set ?_ GE542.out) | exact HB.out))))
           have n5_ := Aside0.mk (blk_below (g := gb540) (o := .cells #[.int .i64 a0_0, .slice A0_1 l0_1.length c0_1] 26 (0, 0)) (by (with_reducible repeat (first | refine blk_drewN ?_ _ | refine blk_drew ?_ | refine blk_alloc ?_ _)); exact BK540.out) hb)
           have n6_ := Aside0.mk (blk_below (g := gb541) (o := .cells #[.slice none 0 0, .slice none 0 0] 36 (0, 0)) (by (with_reducible repeat (first | refine blk_drewN ?_ _ | refine blk_drew ?_ | refine blk_alloc ?_ _)); exact BK541.out) hb)
           have n7_ := Aside0.mk (blk_below (g := gb542) (o := .cells #[.slice Ao21 x543000_1.length co21, .slice Ao22 x543001_1.length co22] 36 (0, 0)) (by (with_reducible repeat (first | refine blk_drewN ?_ _ | refine blk_drew ?_ | refine blk_alloc ?_ _)); exact BK542.out) hb)
           have n8_ := Aside0.mk (below_step (by repeat (first | (with_reducible first | exact HB.out | apply below_alloc | apply pw_below_drewN | apply below_drew1 | refine below_set ?_ GE540.out | refine below_set ?_ GE541.out | refine below_set ?_ GE542.out) | exact HB.out)) hb)
           clear HO_543001
           clear HO545
           clear HO550
           clear HO553
           clear BK540
           clear BK541
           clear BK542
           clear HB
           have HO_543001 := n0_
           have HO545 := n1_
           have HO550 := n2_
           have HO553 := n3_
           have HO556 := n4_
           have BK540 := n5_
           have BK541 := n6_
           have BK542 := n7_
           have HB := n8_
           clear n0_ n1_ n2_ n3_ n4_ n5_ n6_ n7_ n8_
           clear hb ho30
           refine hK.out _ _ ⟨(blk_cell BK542.out 0).trans rfl, (blk_cell BK542.out 1).trans rfl, HS2_⟩ (fun hHeld => ?_)
           clear hK K
           refine norm_ (a' := ?_) ?_ ?_
           rotate_left
           ·
            show Act.put _ (some 32) _ = _
            simp only [Act.put, List.setIfInBounds_toArray, List.set_cons_zero, List.set_cons_succ, i64_w, i32_w]
            rfl
           exact norm_ (by simp only [putAll, Act.put, List.setIfInBounds_toArray, List.set_cons_zero, List.set_cons_succ]) (hCont (.slice Ao28 y548.length co28, v552, v555) _ ⟨hHeld, (by (with_reducible repeat (first | apply Kd.R_alloc | apply Kd.R_drewN | apply Kd.R_drew)); exact Kd.R_mono HO545.out (fun _ hk => ⟨hk.1.1.2, ⟨hk.1.2, ⟨hk.2, hk.1.1.1⟩⟩⟩)), (by (with_reducible repeat (first | apply Kd.R_alloc | apply Kd.R_drewN | apply Kd.R_drew)); exact Kd.R_mono HO550.out (fun _ hk => ⟨hk.1.1.2, ⟨hk.1.2, ⟨hk.2, hk.1.1.1⟩⟩⟩)), (by (with_reducible repeat (first | apply Kd.R_alloc | apply Kd.R_drewN | apply Kd.R_drew)); exact Kd.R_mono HO553.out (fun _ hk => ⟨hk.1.2.1, ⟨hk.1.2.2, ⟨hk.2, hk.1.1⟩⟩⟩)), (by (with_reducible repeat (first | apply Kd.R_alloc | apply Kd.R_drewN | apply Kd.R_drew)); exact Kd.R_mono HO556.out (fun _ hk => ⟨hk.1.1.2, ⟨hk.1.2, ⟨hk.2, hk.1.1.1.2⟩⟩⟩)), (by (with_reducible repeat (first | apply Kd.R_alloc | apply Kd.R_drewN | apply Kd.R_drew)); exact Kd.R_mono HO_543001.out (fun _ hk => ⟨hk.1.1.1, ⟨hk.1.1.2, ⟨hk.1.2, hk.2⟩⟩⟩)), (by (with_reducible repeat (first | refine blk_drewN ?_ _ | refine blk_drew ?_ | refine blk_alloc ?_ _)); exact BK540.out), (by (with_reducible repeat (first | refine blk_drewN ?_ _ | refine blk_drew ?_ | refine blk_alloc ?_ _)); exact BK541.out), (by (with_reducible repeat (first | refine blk_drewN ?_ _ | refine blk_drew ?_ | refine blk_alloc ?_ _)); exact BK542.out), (by repeat (first | (with_reducible first | exact HB.out | apply below_alloc | apply pw_below_drewN | apply below_drew1 | refine below_set ?_ GE540.out | refine below_set ?_ GE541.out | refine below_set ?_ GE542.out) | exact HB.out))⟩)
          ·
           skip
           refine Kd.R_lit_step (Kd.int .i64) _ 3 ?hg (N := 32) ?hd (xs := ([t546] : List Int)) (inner := [.int .i64 t546]) (ok := fun _ => True) (okp := fun _ => True) ?hr ?hp (fun _ hk => hk) trivial (Below.refl _ _) (Nat.le_refl _) (by simp) ?_; (case hd => rfl); (case hg => rfl); (case hr => first | (go_simp; done) | (go_simp; rfl)); (case hp => exact (Reps.one (show Kd.M (Kd.int .i64) _ _ _ t546 [.int .i64 t546] from rfl) (Reps.none _ _)))
           intro v555 w27 ho28 hb hg_ hnew_
           have HS2_ := (hb.cell (World.block_lt_of_cell? _ _ (hHeld.2.2))).trans (hHeld.2.2)
           clear hg_ hnew_
           (first | rw [← Ny554.out] at ho28 | (simp only [Int.reduceToNat] at ho28; rw [← Ny554.out] at ho28))
           have n0_ := Aside0.mk (Kd.R_elder' (by (with_reducible repeat (first | apply Kd.R_alloc | apply Kd.R_drewN | apply Kd.R_drew)); exact HO_543000.out) (Kd.R_base ho28) hb)
           have n1_ := Aside0.mk (Kd.R_elder' (by (with_reducible repeat (first | apply Kd.R_alloc | apply Kd.R_drewN | apply Kd.R_drew)); exact HO_543001.out) (Kd.R_base ho28) hb)
           have n2_ := Aside0.mk (Kd.R_elder' (by (with_reducible repeat (first | apply Kd.R_alloc | apply Kd.R_drewN | apply Kd.R_drew)); exact HO545.out) (Kd.R_base ho28) hb)
           have n3_ := Aside0.mk (Kd.R_elder' (by (with_reducible repeat (first | apply Kd.R_alloc | apply Kd.R_drewN | apply Kd.R_drew)); exact HO550.out) (Kd.R_base ho28) hb)
           have n4_ := Aside0.mk (Kd.R_lower (Kd.R_new' (Kd.R_new' (Kd.R_new' (Kd.R_new' ho28 (Kd.R_lt (by (with_reducible repeat (first | apply Kd.R_alloc | apply Kd.R_drewN | apply Kd.R_drew)); exact HO_543000.out))) (Kd.R_lt (by (with_reducible repeat (first | apply Kd.R_alloc | apply Kd.R_drewN | apply Kd.R_drew)); exact HO_543001.out))) (Kd.R_lt (by (with_reducible repeat (first | apply Kd.R_alloc | apply Kd.R_drewN | apply Kd.R_drew)); exact HO545.out))) (Kd.R_lt (by (with_reducible repeat (first | apply Kd.R_alloc | apply Kd.R_drewN | apply Kd.R_drew)); exact HO550.out))) (below_size (by repeat (first | (with_reducible first | exact HB.out | apply below_alloc | apply pw_below_drewN | apply below_drew1 | refine below_set ?_ GE540.out | refine below_set ?_ GE541.out | refine below_set ?_ GE542.out) | exact HB.out))))
           have n5_ := Aside0.mk (blk_below (g := gb540) (o := .cells #[.int .i64 a0_0, .slice A0_1 l0_1.length c0_1] 26 (0, 0)) (by (with_reducible repeat (first | refine blk_drewN ?_ _ | refine blk_drew ?_ | refine blk_alloc ?_ _)); exact BK540.out) hb)
           have n6_ := Aside0.mk (blk_below (g := gb541) (o := .cells #[.slice none 0 0, .slice none 0 0] 36 (0, 0)) (by (with_reducible repeat (first | refine blk_drewN ?_ _ | refine blk_drew ?_ | refine blk_alloc ?_ _)); exact BK541.out) hb)
           have n7_ := Aside0.mk (blk_below (g := gb542) (o := .cells #[.slice Ao21 x543000_1.length co21, .slice Ao22 x543001_1.length co22] 36 (0, 0)) (by (with_reducible repeat (first | refine blk_drewN ?_ _ | refine blk_drew ?_ | refine blk_alloc ?_ _)); exact BK542.out) hb)
           have n8_ := Aside0.mk (below_step (by repeat (first | (with_reducible first | exact HB.out | apply below_alloc | apply pw_below_drewN | apply below_drew1 | refine below_set ?_ GE540.out | refine below_set ?_ GE541.out | refine below_set ?_ GE542.out) | exact HB.out)) hb)
           clear HO_543000
           clear HO_543001
           clear HO545
           clear HO550
           clear BK540
           clear BK541
           clear BK542
           clear HB
           have HO_543000 := n0_
           have HO_543001 := n1_
           have HO545 := n2_
           have HO550 := n3_
           have HO556 := n4_
           have BK540 := n5_
           have BK541 := n6_
           have BK542 := n7_
           have HB := n8_
           clear n0_ n1_ n2_ n3_ n4_ n5_ n6_ n7_ n8_
           clear hb ho28
           obtain ⟨Ao30, co30, eo30⟩ := Kd.R_slice HO550.out
           (first | subst eo30 | (injection eo30 with f1_ f2_ f3_; have f4_ := f1_.symm; have f5_ := f3_.symm; clear f1_ f2_ f3_; subst f4_; subst f5_))
           refine hK.out _ _ ⟨(blk_cell BK542.out 0).trans rfl, (blk_cell BK542.out 1).trans rfl, HS2_⟩ (fun hHeld => ?_)
           clear hK K
           refine norm_ (a' := ?_) ?_ ?_
           rotate_left
           ·
            show Act.put _ (some 32) _ = _
            simp only [Act.put, List.setIfInBounds_toArray, List.set_cons_zero, List.set_cons_succ, i64_w, i32_w]
            rfl
           refine one_ (i := 9) (N := some 28) #[true, true, true, true, true, true, true, true, true, true, true, true, true, true, false, false, false, false, false] rfl rfl (one_of HT_.out (by kernel_rfl)) (by decide) (fun K hK => ?_)
           refine Kd.R_append_rows_step (Kd.int .i64) (w0 := w) w.heap.size (by rfl) (.tmp 20) (.tmp 27) 22 3 (.int .i64 0) 8 rfl Try.underlying22 info3 rfl (by decide) (by omega) (.slice Ao21 x543000_1.length co21) x543000_1 y548 _ _ _ (fun k_ => some k_ ≠ (.slice Ao22 x543001_1.length co22 : Value).ownBlock ∧ some k_ ≠ (.slice (some ad547) t543.length co24 : Value).ownBlock ∧ some k_ ≠ (.slice Ao30 y548.length co30 : Value).ownBlock ∧ some k_ ≠ (v555 : Value).ownBlock) (fun _ => False) rfl rfl ?aO ?aR (fun _ _ h => h) (fun _ h => h.elim) ?aF ?aB ?aS ?aL ?_
           (case aR => repeat (first | exact (Kd.R_reads' HO550.out).2.2 | (with_reducible refine Kd.C_alloc ?_ _) | (with_reducible refine Kd.C_drewN ?_ _) | (with_reducible refine Kd.C_drew ?_)))
           (case aB => exact (by repeat (first | (with_reducible first | exact HB.out | apply below_alloc | apply pw_below_drewN | apply below_drew1 | refine below_set ?_ GE540.out | refine below_set ?_ GE541.out | refine below_set ?_ GE542.out) | exact HB.out)))
           (case aF => exact (fun k_ hk => ⟨Kd.fresh' (Kd.R_lt (by (with_reducible repeat (first | apply Kd.R_alloc | apply Kd.R_drewN | apply Kd.R_drew)); exact HO_543001.out)) k_ hk, Kd.fresh' (Kd.R_lt (by (with_reducible repeat (first | apply Kd.R_alloc | apply Kd.R_drewN | apply Kd.R_drew)); exact HO545.out)) k_ hk, Kd.fresh' (Kd.R_lt (by (with_reducible repeat (first | apply Kd.R_alloc | apply Kd.R_drewN | apply Kd.R_drew)); exact HO550.out)) k_ hk, Kd.fresh' (Kd.R_lt (by (with_reducible repeat (first | apply Kd.R_alloc | apply Kd.R_drewN | apply Kd.R_drew)); exact HO556.out)) k_ hk⟩))
           (case aO => exact (by (with_reducible repeat (first | apply Kd.R_alloc | apply Kd.R_drewN | apply Kd.R_drew)); exact Kd.R_mono HO_543000.out (fun _ hk => ⟨hk.1.1.1, ⟨hk.1.1.2, ⟨hk.1.2, hk.2⟩⟩⟩)))
           (case aS => exact (below_size (by repeat (first | (with_reducible first | exact HB.out | apply below_alloc | apply pw_below_drewN | apply below_drew1 | refine below_set ?_ GE540.out | refine below_set ?_ GE541.out | refine below_set ?_ GE542.out) | exact HB.out))))
           (case aL => have := LMc15.out; omega)
           intro v552 w29 ho hb hg hat
           (first | have HS2_ := cell_grown hg (hHeld.2.2) (by first | (rw [add_block]; exact (by have h_ := HO545.out.1 _ rfl; first | exact h_ | exact h_.1 | exact h_.2 | exact h_.1.1 | exact h_.1.2 | exact h_.2.1 | exact h_.2.2 | exact h_.1.1.1 | exact h_.1.1.2 | exact h_.1.2.1 | exact h_.1.2.2 | exact h_.2.1.1 | exact h_.2.1.2 | exact h_.2.2.1 | exact h_.2.2.2 | exact h_.1.1.1.1 | exact h_.1.1.1.2 | exact h_.1.1.2.1 | exact h_.1.1.2.2 | exact h_.1.2.1.1 | exact h_.1.2.1.2 | exact h_.1.2.2.1 | exact h_.1.2.2.2 | exact fun e_ => absurd (HO_543000.out.1 _ e_.symm) (by simp))) | (show some (Addr.add _ _).block ≠ _; rw [add_block]; exact (by have h_ := HO545.out.1 _ rfl; first | exact h_ | exact h_.1 | exact h_.2 | exact h_.1.1 | exact h_.1.2 | exact h_.2.1 | exact h_.2.2 | exact h_.1.1.1 | exact h_.1.1.2 | exact h_.1.2.1 | exact h_.1.2.2 | exact h_.2.1.1 | exact h_.2.1.2 | exact h_.2.2.1 | exact h_.2.2.2 | exact h_.1.1.1.1 | exact h_.1.1.1.2 | exact h_.1.1.2.1 | exact h_.1.1.2.2 | exact h_.1.2.1.1 | exact h_.1.2.1.2 | exact h_.1.2.2.1 | exact h_.1.2.2.2 | exact fun e_ => absurd (HO_543000.out.1 _ e_.symm) (by simp))) | exact (by have h_ := HO545.out.1 _ rfl; first | exact h_ | exact h_.1 | exact h_.2 | exact h_.1.1 | exact h_.1.2 | exact h_.2.1 | exact h_.2.2 | exact h_.1.1.1 | exact h_.1.1.2 | exact h_.1.2.1 | exact h_.1.2.2 | exact h_.2.1.1 | exact h_.2.1.2 | exact h_.2.2.1 | exact h_.2.2.2 | exact h_.1.1.1.1 | exact h_.1.1.1.2 | exact h_.1.1.2.1 | exact h_.1.1.2.2 | exact h_.1.2.1.1 | exact h_.1.2.1.2 | exact h_.1.2.2.1 | exact h_.1.2.2.2 | exact fun e_ => absurd (HO_543000.out.1 _ e_.symm) (by simp))) | have HS2_ := cell_grown hg (cell_unalloc (hHeld.2.2) (by first | (rw [add_block]; exact Kd.R_lt HO545.out _ rfl) | (show (Addr.add _ _).block < _; rw [add_block]; exact Kd.R_lt HO545.out _ rfl) | exact Kd.R_lt HO545.out _ rfl)) (by first | (rw [add_block]; exact (by have h_ := HO545.out.1 _ rfl; first | exact h_ | exact h_.1 | exact h_.2 | exact h_.1.1 | exact h_.1.2 | exact h_.2.1 | exact h_.2.2 | exact h_.1.1.1 | exact h_.1.1.2 | exact h_.1.2.1 | exact h_.1.2.2 | exact h_.2.1.1 | exact h_.2.1.2 | exact h_.2.2.1 | exact h_.2.2.2 | exact h_.1.1.1.1 | exact h_.1.1.1.2 | exact h_.1.1.2.1 | exact h_.1.1.2.2 | exact h_.1.2.1.1 | exact h_.1.2.1.2 | exact h_.1.2.2.1 | exact h_.1.2.2.2 | exact fun e_ => absurd (HO_543000.out.1 _ e_.symm) (by simp))) | (show some (Addr.add _ _).block ≠ _; rw [add_block]; exact (by have h_ := HO545.out.1 _ rfl; first | exact h_ | exact h_.1 | exact h_.2 | exact h_.1.1 | exact h_.1.2 | exact h_.2.1 | exact h_.2.2 | exact h_.1.1.1 | exact h_.1.1.2 | exact h_.1.2.1 | exact h_.1.2.2 | exact h_.2.1.1 | exact h_.2.1.2 | exact h_.2.2.1 | exact h_.2.2.2 | exact h_.1.1.1.1 | exact h_.1.1.1.2 | exact h_.1.1.2.1 | exact h_.1.1.2.2 | exact h_.1.2.1.1 | exact h_.1.2.1.2 | exact h_.1.2.2.1 | exact h_.1.2.2.2 | exact fun e_ => absurd (HO_543000.out.1 _ e_.symm) (by simp))) | exact (by have h_ := HO545.out.1 _ rfl; first | exact h_ | exact h_.1 | exact h_.2 | exact h_.1.1 | exact h_.1.2 | exact h_.2.1 | exact h_.2.2 | exact h_.1.1.1 | exact h_.1.1.2 | exact h_.1.2.1 | exact h_.1.2.2 | exact h_.2.1.1 | exact h_.2.1.2 | exact h_.2.2.1 | exact h_.2.2.2 | exact h_.1.1.1.1 | exact h_.1.1.1.2 | exact h_.1.1.2.1 | exact h_.1.1.2.2 | exact h_.1.2.1.1 | exact h_.1.2.1.2 | exact h_.1.2.2.1 | exact h_.1.2.2.2 | exact fun e_ => absurd (HO_543000.out.1 _ e_.symm) (by simp))))
           rw [← Ny551.out] at ho
           have n0_ := Aside0.mk (Kd.R_after (ok := (fun k_ => some k_ ≠ (.slice (some ad547) t543.length co24 : Value).ownBlock ∧ some k_ ≠ (.slice Ao30 y548.length co30 : Value).ownBlock ∧ some k_ ≠ (v555 : Value).ownBlock)) (by (with_reducible repeat (first | apply Kd.R_alloc | apply Kd.R_drewN | apply Kd.R_drew)); exact Kd.R_mono HO_543001.out (fun _ hk => ⟨⟨hk.1.1.2, ⟨hk.1.2, hk.2⟩⟩, hk.1.1.1⟩)) hg hat)
           have n1_ := Aside0.mk (blk_grown (g := gb540) (o := .cells #[.int .i64 a0_0, .slice A0_1 l0_1.length c0_1] 26 (0, 0)) (by (with_reducible repeat (first | refine blk_drewN ?_ _ | refine blk_drew ?_ | refine blk_alloc ?_ _)); exact BK540.out) hg (Kd.R_ne HO_543000.out BK540.out (by decide)))
           have n2_ := Aside0.mk (blk_grown (g := gb541) (o := .cells #[.slice none 0 0, .slice none 0 0] 36 (0, 0)) (by (with_reducible repeat (first | refine blk_drewN ?_ _ | refine blk_drew ?_ | refine blk_alloc ?_ _)); exact BK541.out) hg (Kd.R_ne HO_543000.out BK541.out (by decide)))
           have n3_ := Aside0.mk (blk_grown (g := gb542) (o := .cells #[.slice Ao21 x543000_1.length co21, .slice Ao22 x543001_1.length co22] 36 (0, 0)) (by (with_reducible repeat (first | refine blk_drewN ?_ _ | refine blk_drew ?_ | refine blk_alloc ?_ _)); exact BK542.out) hg (Kd.R_ne HO_543000.out BK542.out (by decide)))
           have n4_ := Aside0.mk (Kd.R_after (ok := (fun k_ => some k_ ≠ (.slice Ao22 x543001_1.length co22 : Value).ownBlock ∧ some k_ ≠ (.slice Ao30 y548.length co30 : Value).ownBlock ∧ some k_ ≠ (v555 : Value).ownBlock)) (by (with_reducible repeat (first | apply Kd.R_alloc | apply Kd.R_drewN | apply Kd.R_drew)); exact Kd.R_mono HO545.out (fun _ hk => ⟨⟨hk.1.1.2, ⟨hk.1.2, hk.2⟩⟩, hk.1.1.1.2⟩)) hg hat)
           have n5_ := Aside0.mk (Kd.R_after (ok := (fun k_ => some k_ ≠ (.slice Ao22 x543001_1.length co22 : Value).ownBlock ∧ some k_ ≠ (.slice (some ad547) t543.length co24 : Value).ownBlock ∧ some k_ ≠ (v555 : Value).ownBlock)) (by (with_reducible repeat (first | apply Kd.R_alloc | apply Kd.R_drewN | apply Kd.R_drew)); exact Kd.R_mono HO550.out (fun _ hk => ⟨⟨hk.1.1.2, ⟨hk.1.2, hk.2⟩⟩, hk.1.1.1.2⟩)) hg hat)
           have n6_ := Aside0.mk (Kd.R_after (ok := (fun k_ => some k_ ≠ (.slice Ao22 x543001_1.length co22 : Value).ownBlock ∧ some k_ ≠ (.slice (some ad547) t543.length co24 : Value).ownBlock ∧ some k_ ≠ (.slice Ao30 y548.length co30 : Value).ownBlock)) (by (with_reducible repeat (first | apply Kd.R_alloc | apply Kd.R_drewN | apply Kd.R_drew)); exact Kd.R_mono HO556.out (fun _ hk => ⟨⟨hk.1.1.2, ⟨hk.1.2, hk.2⟩⟩, hk.1.1.1.2⟩)) hg hat)
           have n7_ := Aside0.mk (hb)
           have n8_ := Aside0.mk (ho)
           clear HO_543001
           clear BK540
           clear BK541
           clear BK542
           clear HO545
           clear HO550
           clear HO556
           clear HB
           clear HO_543000
           have HO_543001 := n0_
           have BK540 := n1_
           have BK541 := n2_
           have BK542 := n3_
           have HO545 := n4_
           have HO550 := n5_
           have HO556 := n6_
           have HB := n7_
           have HO553 := n8_
           clear n0_ n1_ n2_ n3_ n4_ n5_ n6_ n7_ n8_
           clear ho hb hg hat
           refine hK.out _ _ ⟨(blk_cell BK542.out 0).trans rfl, (blk_cell BK542.out 1).trans rfl, HS2_⟩ (fun hHeld => ?_)
           clear hK K
           refine norm_ (a' := ?_) ?_ ?_
           rotate_left
           ·
            show Act.put _ (some 28) _ = _
            simp only [Act.put, List.setIfInBounds_toArray, List.set_cons_zero, List.set_cons_succ, i64_w, i32_w]
            rfl
           refine pure_ (i := 15) (N := some 34) (v := ?_) (a' := ?_) #[true, true, true, true, true, true, true, true, true, true, true, true, true, true, false, true, false, false, false] rfl rfl (any_of HT_.out (by kernel_rfl)) (fun _ _ _ h => h) (Or.inl ⟨by rfl, ?_⟩) ?_ ?_
           rotate_left
           ·
            intro w'
            go_simp
            with_reducible rfl
           rotate_left
           ·
            simp only [Act.put, List.setIfInBounds_toArray, List.set_cons_zero, List.set_cons_succ, i64_w, i32_w]
            rfl
           exact norm_ (by simp only [putAll, Act.put, List.setIfInBounds_toArray, List.set_cons_zero, List.set_cons_succ]) (hCont (.slice Ao30 y548.length co30, v552, v555) _ ⟨hHeld, (by (with_reducible repeat (first | apply Kd.R_alloc | apply Kd.R_drewN | apply Kd.R_drew)); exact Kd.R_mono HO545.out (fun _ hk => ⟨hk.1.2.1, ⟨hk.2, ⟨hk.1.2.2, hk.1.1⟩⟩⟩)), (by (with_reducible repeat (first | apply Kd.R_alloc | apply Kd.R_drewN | apply Kd.R_drew)); exact Kd.R_mono HO550.out (fun _ hk => ⟨hk.1.2.1, ⟨hk.2, ⟨hk.1.2.2, hk.1.1⟩⟩⟩)), (by (with_reducible repeat (first | apply Kd.R_alloc | apply Kd.R_drewN | apply Kd.R_drew)); exact Kd.R_mono HO553.out (fun _ hk => ⟨hk.2.1, ⟨hk.2.2.1, ⟨hk.2.2.2, hk.1⟩⟩⟩)), (by (with_reducible repeat (first | apply Kd.R_alloc | apply Kd.R_drewN | apply Kd.R_drew)); exact Kd.R_mono HO556.out (fun _ hk => ⟨hk.1.2.1, ⟨hk.1.2.2, ⟨hk.2, hk.1.1⟩⟩⟩)), (by (with_reducible repeat (first | apply Kd.R_alloc | apply Kd.R_drewN | apply Kd.R_drew)); exact Kd.R_mono HO_543001.out (fun _ hk => ⟨hk.1.1, ⟨hk.1.2.1, ⟨hk.2, hk.1.2.2⟩⟩⟩)), (by (with_reducible repeat (first | refine blk_drewN ?_ _ | refine blk_drew ?_ | refine blk_alloc ?_ _)); exact BK540.out), (by (with_reducible repeat (first | refine blk_drewN ?_ _ | refine blk_drew ?_ | refine blk_alloc ?_ _)); exact BK541.out), (by (with_reducible repeat (first | refine blk_drewN ?_ _ | refine blk_drew ?_ | refine blk_alloc ?_ _)); exact BK542.out), (by repeat (first | (with_reducible first | exact HB.out | apply below_alloc | apply pw_below_drewN | apply below_drew1 | refine below_set ?_ GE540.out | refine below_set ?_ GE541.out | refine below_set ?_ GE542.out) | exact HB.out))⟩)
         ·
          skip
          refine Kd.R_lit_step (Kd.int .i64) _ 3 ?hg (N := 32) ?hd (xs := ([t546] : List Int)) (inner := [.int .i64 t546]) (ok := fun _ => True) (okp := fun _ => True) ?hr ?hp (fun _ hk => hk) trivial (Below.refl _ _) (Nat.le_refl _) (by simp) ?_; (case hd => rfl); (case hg => rfl); (case hr => first | (go_simp; done) | (go_simp; rfl)); (case hp => exact (Reps.one (show Kd.M (Kd.int .i64) _ _ _ t546 [.int .i64 t546] from rfl) (Reps.none _ _)))
          intro v555 w25 ho26 hb hg_ hnew_
          have HS2_ := (hb.cell (World.block_lt_of_cell? _ _ (hHeld.2.2))).trans (hHeld.2.2)
          clear hg_ hnew_
          (first | rw [← Ny554.out] at ho26 | (simp only [Int.reduceToNat] at ho26; rw [← Ny554.out] at ho26))
          have n0_ := Aside0.mk (Kd.R_elder' (by (with_reducible repeat (first | apply Kd.R_alloc | apply Kd.R_drewN | apply Kd.R_drew)); exact HO_543000.out) (Kd.R_base ho26) hb)
          have n1_ := Aside0.mk (Kd.R_elder' (by (with_reducible repeat (first | apply Kd.R_alloc | apply Kd.R_drewN | apply Kd.R_drew)); exact HO_543001.out) (Kd.R_base ho26) hb)
          have n2_ := Aside0.mk (Kd.R_elder' (by (with_reducible repeat (first | apply Kd.R_alloc | apply Kd.R_drewN | apply Kd.R_drew)); exact HO545.out) (Kd.R_base ho26) hb)
          have n3_ := Aside0.mk (Kd.R_lower (Kd.R_new' (Kd.R_new' (Kd.R_new' ho26 (Kd.R_lt (by (with_reducible repeat (first | apply Kd.R_alloc | apply Kd.R_drewN | apply Kd.R_drew)); exact HO_543000.out))) (Kd.R_lt (by (with_reducible repeat (first | apply Kd.R_alloc | apply Kd.R_drewN | apply Kd.R_drew)); exact HO_543001.out))) (Kd.R_lt (by (with_reducible repeat (first | apply Kd.R_alloc | apply Kd.R_drewN | apply Kd.R_drew)); exact HO545.out))) (below_size (by repeat (first | (with_reducible first | exact HB.out | apply below_alloc | apply pw_below_drewN | apply below_drew1 | refine below_set ?_ GE540.out | refine below_set ?_ GE541.out | refine below_set ?_ GE542.out) | exact HB.out))))
          have n4_ := Aside0.mk (blk_below (g := gb540) (o := .cells #[.int .i64 a0_0, .slice A0_1 l0_1.length c0_1] 26 (0, 0)) (by (with_reducible repeat (first | refine blk_drewN ?_ _ | refine blk_drew ?_ | refine blk_alloc ?_ _)); exact BK540.out) hb)
          have n5_ := Aside0.mk (blk_below (g := gb541) (o := .cells #[.slice none 0 0, .slice none 0 0] 36 (0, 0)) (by (with_reducible repeat (first | refine blk_drewN ?_ _ | refine blk_drew ?_ | refine blk_alloc ?_ _)); exact BK541.out) hb)
          have n6_ := Aside0.mk (blk_below (g := gb542) (o := .cells #[.slice Ao21 x543000_1.length co21, .slice Ao22 x543001_1.length co22] 36 (0, 0)) (by (with_reducible repeat (first | refine blk_drewN ?_ _ | refine blk_drew ?_ | refine blk_alloc ?_ _)); exact BK542.out) hb)
          have n7_ := Aside0.mk (below_step (by repeat (first | (with_reducible first | exact HB.out | apply below_alloc | apply pw_below_drewN | apply below_drew1 | refine below_set ?_ GE540.out | refine below_set ?_ GE541.out | refine below_set ?_ GE542.out) | exact HB.out)) hb)
          clear HO_543000
          clear HO_543001
          clear HO545
          clear BK540
          clear BK541
          clear BK542
          clear HB
          have HO_543000 := n0_
          have HO_543001 := n1_
          have HO545 := n2_
          have HO556 := n3_
          have BK540 := n4_
          have BK541 := n5_
          have BK542 := n6_
          have HB := n7_
          clear n0_ n1_ n2_ n3_ n4_ n5_ n6_ n7_
          clear hb ho26
          refine hK.out _ _ ⟨(blk_cell BK542.out 0).trans rfl, (blk_cell BK542.out 1).trans rfl, HS2_⟩ (fun hHeld => ?_)
          clear hK K
          refine norm_ (a' := ?_) ?_ ?_
          rotate_left
          ·
           show Act.put _ (some 32) _ = _
           simp only [Act.put, List.setIfInBounds_toArray, List.set_cons_zero, List.set_cons_succ, i64_w, i32_w]
           rfl
          refine one_ (i := 8) (N := some 27) #[true, true, true, true, true, true, true, true, true, false, true, true, true, true, false, false, false, false, false] rfl rfl (one_of HT_.out (by kernel_rfl)) (by decide) (fun K hK => ?_)
          refine Kd.R_lit_step (Kd.int .i64) _ 3 ?hg (N := 27) ?hd (xs := ([rd t543 (ji12)] : List Int)) (inner := [.int .i64 (rd t543 (ji12))]) (ok := fun _ => True) (okp := fun _ => True) ?hr ?hp (fun _ hk => hk) trivial (Below.refl _ _) (Nat.le_refl _) (by simp) ?_; (case hd => rfl); (case hg => rfl); (case hr => first | (go_simp; done) | (go_simp; rfl)); (case hp => exact (Reps.one (show Kd.M (Kd.int .i64) _ _ _ (rd t543 (ji12)) [.int .i64 (rd t543 (ji12))] from rfl) (Reps.none _ _)))
          intro v549 w27 ho28 hb hg_ hnew_
          have HS2_ := (hb.cell (World.block_lt_of_cell? _ _ (hHeld.2.2))).trans (hHeld.2.2)
          clear hg_ hnew_
          (first | rw [← Ny548.out] at ho28 | (simp only [Int.reduceToNat] at ho28; rw [← Ny548.out] at ho28))
          have n0_ := Aside0.mk (Kd.R_elder' (by (with_reducible repeat (first | apply Kd.R_alloc | apply Kd.R_drewN | apply Kd.R_drew)); exact HO_543000.out) (Kd.R_base ho28) hb)
          have n1_ := Aside0.mk (Kd.R_elder' (by (with_reducible repeat (first | apply Kd.R_alloc | apply Kd.R_drewN | apply Kd.R_drew)); exact HO_543001.out) (Kd.R_base ho28) hb)
          have n2_ := Aside0.mk (Kd.R_elder' (by (with_reducible repeat (first | apply Kd.R_alloc | apply Kd.R_drewN | apply Kd.R_drew)); exact HO545.out) (Kd.R_base ho28) hb)
          have n3_ := Aside0.mk (Kd.R_elder' (by (with_reducible repeat (first | apply Kd.R_alloc | apply Kd.R_drewN | apply Kd.R_drew)); exact HO556.out) (Kd.R_base ho28) hb)
          have n4_ := Aside0.mk (Kd.R_lower (Kd.R_new' (Kd.R_new' (Kd.R_new' (Kd.R_new' ho28 (Kd.R_lt (by (with_reducible repeat (first | apply Kd.R_alloc | apply Kd.R_drewN | apply Kd.R_drew)); exact HO_543000.out))) (Kd.R_lt (by (with_reducible repeat (first | apply Kd.R_alloc | apply Kd.R_drewN | apply Kd.R_drew)); exact HO_543001.out))) (Kd.R_lt (by (with_reducible repeat (first | apply Kd.R_alloc | apply Kd.R_drewN | apply Kd.R_drew)); exact HO545.out))) (Kd.R_lt (by (with_reducible repeat (first | apply Kd.R_alloc | apply Kd.R_drewN | apply Kd.R_drew)); exact HO556.out))) (below_size (by repeat (first | (with_reducible first | exact HB.out | apply below_alloc | apply pw_below_drewN | apply below_drew1 | refine below_set ?_ GE540.out | refine below_set ?_ GE541.out | refine below_set ?_ GE542.out) | exact HB.out))))
          have n5_ := Aside0.mk (blk_below (g := gb540) (o := .cells #[.int .i64 a0_0, .slice A0_1 l0_1.length c0_1] 26 (0, 0)) (by (with_reducible repeat (first | refine blk_drewN ?_ _ | refine blk_drew ?_ | refine blk_alloc ?_ _)); exact BK540.out) hb)
          have n6_ := Aside0.mk (blk_below (g := gb541) (o := .cells #[.slice none 0 0, .slice none 0 0] 36 (0, 0)) (by (with_reducible repeat (first | refine blk_drewN ?_ _ | refine blk_drew ?_ | refine blk_alloc ?_ _)); exact BK541.out) hb)
          have n7_ := Aside0.mk (blk_below (g := gb542) (o := .cells #[.slice Ao21 x543000_1.length co21, .slice Ao22 x543001_1.length co22] 36 (0, 0)) (by (with_reducible repeat (first | refine blk_drewN ?_ _ | refine blk_drew ?_ | refine blk_alloc ?_ _)); exact BK542.out) hb)
          have n8_ := Aside0.mk (below_step (by repeat (first | (with_reducible first | exact HB.out | apply below_alloc | apply pw_below_drewN | apply below_drew1 | refine below_set ?_ GE540.out | refine below_set ?_ GE541.out | refine below_set ?_ GE542.out) | exact HB.out)) hb)
          clear HO_543000
          clear HO_543001
          clear HO545
          clear HO556
          clear BK540
          clear BK541
          clear BK542
          clear HB
          have HO_543000 := n0_
          have HO_543001 := n1_
          have HO545 := n2_
          have HO556 := n3_
          have HO550 := n4_
          have BK540 := n5_
          have BK541 := n6_
          have BK542 := n7_
          have HB := n8_
          clear n0_ n1_ n2_ n3_ n4_ n5_ n6_ n7_ n8_
          clear hb ho28
          obtain ⟨Ao30, co30, eo30⟩ := Kd.R_slice HO550.out
          (first | subst eo30 | (injection eo30 with f1_ f2_ f3_; have f4_ := f1_.symm; have f5_ := f3_.symm; clear f1_ f2_ f3_; subst f4_; subst f5_))
          refine hK.out _ _ ⟨(blk_cell BK542.out 0).trans rfl, (blk_cell BK542.out 1).trans rfl, HS2_⟩ (fun hHeld => ?_)
          clear hK K
          refine norm_ (a' := ?_) ?_ ?_
          rotate_left
          ·
           show Act.put _ (some 27) _ = _
           simp only [Act.put, List.setIfInBounds_toArray, List.set_cons_zero, List.set_cons_succ, i64_w, i32_w]
           rfl
          refine one_ (i := 9) (N := some 28) #[true, true, true, true, true, true, true, true, true, true, true, true, true, true, false, false, false, false, false] rfl rfl (one_of HT_.out (by kernel_rfl)) (by decide) (fun K hK => ?_)
          refine Kd.R_append_rows_step (Kd.int .i64) (w0 := w) w.heap.size (by rfl) (.tmp 20) (.tmp 27) 22 3 (.int .i64 0) 8 rfl Try.underlying22 info3 rfl (by decide) (by omega) (.slice Ao21 x543000_1.length co21) x543000_1 y548 _ _ _ (fun k_ => some k_ ≠ (.slice Ao22 x543001_1.length co22 : Value).ownBlock ∧ some k_ ≠ (.slice (some ad547) t543.length co24 : Value).ownBlock ∧ some k_ ≠ (v555 : Value).ownBlock ∧ some k_ ≠ (.slice Ao30 y548.length co30 : Value).ownBlock) (fun _ => False) rfl rfl ?aO ?aR (fun _ _ h => h) (fun _ h => h.elim) ?aF ?aB ?aS ?aL ?_
          (case aR => repeat (first | exact (Kd.R_reads' HO550.out).2.2 | (with_reducible refine Kd.C_alloc ?_ _) | (with_reducible refine Kd.C_drewN ?_ _) | (with_reducible refine Kd.C_drew ?_)))
          (case aB => exact (by repeat (first | (with_reducible first | exact HB.out | apply below_alloc | apply pw_below_drewN | apply below_drew1 | refine below_set ?_ GE540.out | refine below_set ?_ GE541.out | refine below_set ?_ GE542.out) | exact HB.out)))
          (case aF => exact (fun k_ hk => ⟨Kd.fresh' (Kd.R_lt (by (with_reducible repeat (first | apply Kd.R_alloc | apply Kd.R_drewN | apply Kd.R_drew)); exact HO_543001.out)) k_ hk, Kd.fresh' (Kd.R_lt (by (with_reducible repeat (first | apply Kd.R_alloc | apply Kd.R_drewN | apply Kd.R_drew)); exact HO545.out)) k_ hk, Kd.fresh' (Kd.R_lt (by (with_reducible repeat (first | apply Kd.R_alloc | apply Kd.R_drewN | apply Kd.R_drew)); exact HO556.out)) k_ hk, Kd.fresh' (Kd.R_lt (by (with_reducible repeat (first | apply Kd.R_alloc | apply Kd.R_drewN | apply Kd.R_drew)); exact HO550.out)) k_ hk⟩))
          (case aO => exact (by (with_reducible repeat (first | apply Kd.R_alloc | apply Kd.R_drewN | apply Kd.R_drew)); exact Kd.R_mono HO_543000.out (fun _ hk => ⟨hk.1.1.1, ⟨hk.1.1.2, ⟨hk.1.2, hk.2⟩⟩⟩)))
          (case aS => exact (below_size (by repeat (first | (with_reducible first | exact HB.out | apply below_alloc | apply pw_below_drewN | apply below_drew1 | refine below_set ?_ GE540.out | refine below_set ?_ GE541.out | refine below_set ?_ GE542.out) | exact HB.out))))
          (case aL => have := LMc15.out; omega)
          intro v552 w29 ho hb hg hat
          (first | have HS2_ := cell_grown hg (hHeld.2.2) (by first | (rw [add_block]; exact (by have h_ := HO545.out.1 _ rfl; first | exact h_ | exact h_.1 | exact h_.2 | exact h_.1.1 | exact h_.1.2 | exact h_.2.1 | exact h_.2.2 | exact h_.1.1.1 | exact h_.1.1.2 | exact h_.1.2.1 | exact h_.1.2.2 | exact h_.2.1.1 | exact h_.2.1.2 | exact h_.2.2.1 | exact h_.2.2.2 | exact h_.1.1.1.1 | exact h_.1.1.1.2 | exact h_.1.1.2.1 | exact h_.1.1.2.2 | exact h_.1.2.1.1 | exact h_.1.2.1.2 | exact h_.1.2.2.1 | exact h_.1.2.2.2 | exact fun e_ => absurd (HO_543000.out.1 _ e_.symm) (by simp))) | (show some (Addr.add _ _).block ≠ _; rw [add_block]; exact (by have h_ := HO545.out.1 _ rfl; first | exact h_ | exact h_.1 | exact h_.2 | exact h_.1.1 | exact h_.1.2 | exact h_.2.1 | exact h_.2.2 | exact h_.1.1.1 | exact h_.1.1.2 | exact h_.1.2.1 | exact h_.1.2.2 | exact h_.2.1.1 | exact h_.2.1.2 | exact h_.2.2.1 | exact h_.2.2.2 | exact h_.1.1.1.1 | exact h_.1.1.1.2 | exact h_.1.1.2.1 | exact h_.1.1.2.2 | exact h_.1.2.1.1 | exact h_.1.2.1.2 | exact h_.1.2.2.1 | exact h_.1.2.2.2 | exact fun e_ => absurd (HO_543000.out.1 _ e_.symm) (by simp))) | exact (by have h_ := HO545.out.1 _ rfl; first | exact h_ | exact h_.1 | exact h_.2 | exact h_.1.1 | exact h_.1.2 | exact h_.2.1 | exact h_.2.2 | exact h_.1.1.1 | exact h_.1.1.2 | exact h_.1.2.1 | exact h_.1.2.2 | exact h_.2.1.1 | exact h_.2.1.2 | exact h_.2.2.1 | exact h_.2.2.2 | exact h_.1.1.1.1 | exact h_.1.1.1.2 | exact h_.1.1.2.1 | exact h_.1.1.2.2 | exact h_.1.2.1.1 | exact h_.1.2.1.2 | exact h_.1.2.2.1 | exact h_.1.2.2.2 | exact fun e_ => absurd (HO_543000.out.1 _ e_.symm) (by simp))) | have HS2_ := cell_grown hg (cell_unalloc (hHeld.2.2) (by first | (rw [add_block]; exact Kd.R_lt HO545.out _ rfl) | (show (Addr.add _ _).block < _; rw [add_block]; exact Kd.R_lt HO545.out _ rfl) | exact Kd.R_lt HO545.out _ rfl)) (by first | (rw [add_block]; exact (by have h_ := HO545.out.1 _ rfl; first | exact h_ | exact h_.1 | exact h_.2 | exact h_.1.1 | exact h_.1.2 | exact h_.2.1 | exact h_.2.2 | exact h_.1.1.1 | exact h_.1.1.2 | exact h_.1.2.1 | exact h_.1.2.2 | exact h_.2.1.1 | exact h_.2.1.2 | exact h_.2.2.1 | exact h_.2.2.2 | exact h_.1.1.1.1 | exact h_.1.1.1.2 | exact h_.1.1.2.1 | exact h_.1.1.2.2 | exact h_.1.2.1.1 | exact h_.1.2.1.2 | exact h_.1.2.2.1 | exact h_.1.2.2.2 | exact fun e_ => absurd (HO_543000.out.1 _ e_.symm) (by simp))) | (show some (Addr.add _ _).block ≠ _; rw [add_block]; exact (by have h_ := HO545.out.1 _ rfl; first | exact h_ | exact h_.1 | exact h_.2 | exact h_.1.1 | exact h_.1.2 | exact h_.2.1 | exact h_.2.2 | exact h_.1.1.1 | exact h_.1.1.2 | exact h_.1.2.1 | exact h_.1.2.2 | exact h_.2.1.1 | exact h_.2.1.2 | exact h_.2.2.1 | exact h_.2.2.2 | exact h_.1.1.1.1 | exact h_.1.1.1.2 | exact h_.1.1.2.1 | exact h_.1.1.2.2 | exact h_.1.2.1.1 | exact h_.1.2.1.2 | exact h_.1.2.2.1 | exact h_.1.2.2.2 | exact fun e_ => absurd (HO_543000.out.1 _ e_.symm) (by simp))) | exact (by have h_ := HO545.out.1 _ rfl; first | exact h_ | exact h_.1 | exact h_.2 | exact h_.1.1 | exact h_.1.2 | exact h_.2.1 | exact h_.2.2 | exact h_.1.1.1 | exact h_.1.1.2 | exact h_.1.2.1 | exact h_.1.2.2 | exact h_.2.1.1 | exact h_.2.1.2 | exact h_.2.2.1 | exact h_.2.2.2 | exact h_.1.1.1.1 | exact h_.1.1.1.2 | exact h_.1.1.2.1 | exact h_.1.1.2.2 | exact h_.1.2.1.1 | exact h_.1.2.1.2 | exact h_.1.2.2.1 | exact h_.1.2.2.2 | exact fun e_ => absurd (HO_543000.out.1 _ e_.symm) (by simp))))
          rw [← Ny551.out] at ho
          have n0_ := Aside0.mk (Kd.R_after (ok := (fun k_ => some k_ ≠ (.slice (some ad547) t543.length co24 : Value).ownBlock ∧ some k_ ≠ (v555 : Value).ownBlock ∧ some k_ ≠ (.slice Ao30 y548.length co30 : Value).ownBlock)) (by (with_reducible repeat (first | apply Kd.R_alloc | apply Kd.R_drewN | apply Kd.R_drew)); exact Kd.R_mono HO_543001.out (fun _ hk => ⟨⟨hk.1.1.2, ⟨hk.1.2, hk.2⟩⟩, hk.1.1.1⟩)) hg hat)
          have n1_ := Aside0.mk (blk_grown (g := gb540) (o := .cells #[.int .i64 a0_0, .slice A0_1 l0_1.length c0_1] 26 (0, 0)) (by (with_reducible repeat (first | refine blk_drewN ?_ _ | refine blk_drew ?_ | refine blk_alloc ?_ _)); exact BK540.out) hg (Kd.R_ne HO_543000.out BK540.out (by decide)))
          have n2_ := Aside0.mk (blk_grown (g := gb541) (o := .cells #[.slice none 0 0, .slice none 0 0] 36 (0, 0)) (by (with_reducible repeat (first | refine blk_drewN ?_ _ | refine blk_drew ?_ | refine blk_alloc ?_ _)); exact BK541.out) hg (Kd.R_ne HO_543000.out BK541.out (by decide)))
          have n3_ := Aside0.mk (blk_grown (g := gb542) (o := .cells #[.slice Ao21 x543000_1.length co21, .slice Ao22 x543001_1.length co22] 36 (0, 0)) (by (with_reducible repeat (first | refine blk_drewN ?_ _ | refine blk_drew ?_ | refine blk_alloc ?_ _)); exact BK542.out) hg (Kd.R_ne HO_543000.out BK542.out (by decide)))
          have n4_ := Aside0.mk (Kd.R_after (ok := (fun k_ => some k_ ≠ (.slice Ao22 x543001_1.length co22 : Value).ownBlock ∧ some k_ ≠ (v555 : Value).ownBlock ∧ some k_ ≠ (.slice Ao30 y548.length co30 : Value).ownBlock)) (by (with_reducible repeat (first | apply Kd.R_alloc | apply Kd.R_drewN | apply Kd.R_drew)); exact Kd.R_mono HO545.out (fun _ hk => ⟨⟨hk.1.1.2, ⟨hk.1.2, hk.2⟩⟩, hk.1.1.1.2⟩)) hg hat)
          have n5_ := Aside0.mk (Kd.R_after (ok := (fun k_ => some k_ ≠ (.slice Ao22 x543001_1.length co22 : Value).ownBlock ∧ some k_ ≠ (.slice (some ad547) t543.length co24 : Value).ownBlock ∧ some k_ ≠ (.slice Ao30 y548.length co30 : Value).ownBlock)) (by (with_reducible repeat (first | apply Kd.R_alloc | apply Kd.R_drewN | apply Kd.R_drew)); exact Kd.R_mono HO556.out (fun _ hk => ⟨⟨hk.1.1.2, ⟨hk.1.2, hk.2⟩⟩, hk.1.1.1.2⟩)) hg hat)
          have n6_ := Aside0.mk (Kd.R_after (ok := (fun k_ => some k_ ≠ (.slice Ao22 x543001_1.length co22 : Value).ownBlock ∧ some k_ ≠ (.slice (some ad547) t543.length co24 : Value).ownBlock ∧ some k_ ≠ (v555 : Value).ownBlock)) (by (with_reducible repeat (first | apply Kd.R_alloc | apply Kd.R_drewN | apply Kd.R_drew)); exact Kd.R_mono HO550.out (fun _ hk => ⟨⟨hk.1.1.2, ⟨hk.1.2, hk.2⟩⟩, hk.1.1.1.2⟩)) hg hat)
          have n7_ := Aside0.mk (hb)
          have n8_ := Aside0.mk (ho)
          clear HO_543001
          clear BK540
          clear BK541
          clear BK542
          clear HO545
          clear HO556
          clear HO550
          clear HB
          clear HO_543000
          have HO_543001 := n0_
          have BK540 := n1_
          have BK541 := n2_
          have BK542 := n3_
          have HO545 := n4_
          have HO556 := n5_
          have HO550 := n6_
          have HB := n7_
          have HO553 := n8_
          clear n0_ n1_ n2_ n3_ n4_ n5_ n6_ n7_ n8_
          clear ho hb hg hat
          refine hK.out _ _ ⟨(blk_cell BK542.out 0).trans rfl, (blk_cell BK542.out 1).trans rfl, HS2_⟩ (fun hHeld => ?_)
          clear hK K
          refine norm_ (a' := ?_) ?_ ?_
          rotate_left
          ·
           show Act.put _ (some 28) _ = _
           simp only [Act.put, List.setIfInBounds_toArray, List.set_cons_zero, List.set_cons_succ, i64_w, i32_w]
           rfl
          refine pure_ (i := 15) (N := some 34) (v := ?_) (a' := ?_) #[true, true, true, true, true, true, true, true, true, true, true, true, true, true, false, true, false, false, false] rfl rfl (any_of HT_.out (by kernel_rfl)) (fun _ _ _ h => h) (Or.inl ⟨by rfl, ?_⟩) ?_ ?_
          rotate_left
          ·
           intro w'
           go_simp
           with_reducible rfl
          rotate_left
          ·
           simp only [Act.put, List.setIfInBounds_toArray, List.set_cons_zero, List.set_cons_succ, i64_w, i32_w]
           rfl
          exact norm_ (by simp only [putAll, Act.put, List.setIfInBounds_toArray, List.set_cons_zero, List.set_cons_succ]) (hCont (.slice Ao30 y548.length co30, v552, v555) _ ⟨hHeld, (by (with_reducible repeat (first | apply Kd.R_alloc | apply Kd.R_drewN | apply Kd.R_drew)); exact Kd.R_mono HO545.out (fun _ hk => ⟨hk.1.2.2, ⟨hk.2, ⟨hk.1.2.1, hk.1.1⟩⟩⟩)), (by (with_reducible repeat (first | apply Kd.R_alloc | apply Kd.R_drewN | apply Kd.R_drew)); exact Kd.R_mono HO550.out (fun _ hk => ⟨hk.1.2.1, ⟨hk.2, ⟨hk.1.2.2, hk.1.1⟩⟩⟩)), (by (with_reducible repeat (first | apply Kd.R_alloc | apply Kd.R_drewN | apply Kd.R_drew)); exact Kd.R_mono HO553.out (fun _ hk => ⟨hk.2.1, ⟨hk.2.2.2, ⟨hk.2.2.1, hk.1⟩⟩⟩)), (by (with_reducible repeat (first | apply Kd.R_alloc | apply Kd.R_drewN | apply Kd.R_drew)); exact Kd.R_mono HO556.out (fun _ hk => ⟨hk.1.2.1, ⟨hk.1.2.2, ⟨hk.2, hk.1.1⟩⟩⟩)), (by (with_reducible repeat (first | apply Kd.R_alloc | apply Kd.R_drewN | apply Kd.R_drew)); exact Kd.R_mono HO_543001.out (fun _ hk => ⟨hk.1.1, ⟨hk.1.2.2, ⟨hk.2, hk.1.2.1⟩⟩⟩)), (by (with_reducible repeat (first | refine blk_drewN ?_ _ | refine blk_drew ?_ | refine blk_alloc ?_ _)); exact BK540.out), (by (with_reducible repeat (first | refine blk_drewN ?_ _ | refine blk_drew ?_ | refine blk_alloc ?_ _)); exact BK541.out), (by (with_reducible repeat (first | refine blk_drewN ?_ _ | refine blk_drew ?_ | refine blk_alloc ?_ _)); exact BK542.out), (by repeat (first | (with_reducible first | exact HB.out | apply below_alloc | apply pw_below_drewN | apply below_drew1 | refine below_set ?_ GE540.out | refine below_set ?_ GE541.out | refine below_set ?_ GE542.out) | exact HB.out))⟩)
        rintro ⟨v549, v552, v555⟩ w31 ⟨hS_, h0_, h1_, h2_, h3_, h4_, h5_, h6_, h7_, h8_⟩
        have n0_ : Aside0 (Kd.R (Kd.int .i64) 3 w31 w.heap.size (fun k_ => some k_ ≠ (v549 : Value).ownBlock ∧ some k_ ≠ (v552 : Value).ownBlock ∧ some k_ ≠ (v555 : Value).ownBlock ∧ some k_ ≠ (.slice Ao22 x543001_1.length co22 : Value).ownBlock) (.slice (some ad547) t543.length co24) t543) := ⟨h0_⟩
        have n1_ : Aside0 (Kd.R (Kd.int .i64) 3 w31 w.heap.size (fun k_ => some k_ ≠ (.slice (some ad547) t543.length co24 : Value).ownBlock ∧ some k_ ≠ (v552 : Value).ownBlock ∧ some k_ ≠ (v555 : Value).ownBlock ∧ some k_ ≠ (.slice Ao22 x543001_1.length co22 : Value).ownBlock) v549 y548) := ⟨h1_⟩
        have n2_ : Aside0 (Kd.R (Kd.int .i64) 3 w31 w.heap.size (fun k_ => some k_ ≠ (.slice (some ad547) t543.length co24 : Value).ownBlock ∧ some k_ ≠ (v549 : Value).ownBlock ∧ some k_ ≠ (v555 : Value).ownBlock ∧ some k_ ≠ (.slice Ao22 x543001_1.length co22 : Value).ownBlock) v552 y551) := ⟨h2_⟩
        have n3_ : Aside0 (Kd.R (Kd.int .i64) 3 w31 w.heap.size (fun k_ => some k_ ≠ (.slice (some ad547) t543.length co24 : Value).ownBlock ∧ some k_ ≠ (v549 : Value).ownBlock ∧ some k_ ≠ (v552 : Value).ownBlock ∧ some k_ ≠ (.slice Ao22 x543001_1.length co22 : Value).ownBlock) v555 y554) := ⟨h3_⟩
        have n4_ : Aside0 (Kd.R (Kd.int .i64) 3 w31 w.heap.size (fun k_ => some k_ ≠ (.slice (some ad547) t543.length co24 : Value).ownBlock ∧ some k_ ≠ (v549 : Value).ownBlock ∧ some k_ ≠ (v552 : Value).ownBlock ∧ some k_ ≠ (v555 : Value).ownBlock) (.slice Ao22 x543001_1.length co22) x543001_1) := ⟨h4_⟩
        have n5_ : Aside0 (w31.heap[gb540]? = some (.cells #[.int .i64 a0_0, .slice A0_1 l0_1.length c0_1] 26 (0, 0))) := ⟨h5_⟩
        have n6_ : Aside0 (w31.heap[gb541]? = some (.cells #[.slice none 0 0, .slice none 0 0] 36 (0, 0))) := ⟨h6_⟩
        have n7_ : Aside0 (w31.heap[gb542]? = some (.cells #[.slice Ao21 x543000_1.length co21, .slice Ao22 x543001_1.length co22] 36 (0, 0))) := ⟨h7_⟩
        have n8_ : Aside0 (Below w.heap.size w w31) := ⟨h8_⟩
        clear HO_543000
        clear HO_543001
        clear HO545
        clear BK540
        clear BK541
        clear BK542
        clear HB
        clear h0_ h1_ h2_ h3_ h4_ h5_ h6_ h7_ h8_
        have HO545 := n0_
        have HO550 := n1_
        have HO553 := n2_
        have HO556 := n3_
        have HO_543001 := n4_
        have BK540 := n5_
        have BK541 := n6_
        have BK542 := n7_
        have HB := n8_
        clear n0_ n1_ n2_ n3_ n4_ n5_ n6_ n7_ n8_
        have hHeld : w31.cell? ⟨gb542, 0, none⟩ = some (.slice Ao21 x543000_1.length co21) ∧ w31.cell? ⟨gb542, 1, none⟩ = some (.slice Ao22 x543001_1.length co22) ∧ w31.cell? (ad547.add ((ji12)).toNat) = some (.int .i64 (rd t543 (ji12))) := hS_
        obtain ⟨Ao33, co33, eo33⟩ := Kd.R_slice HO556.out
        (first | subst eo33 | (injection eo33 with f1_ f2_ f3_; have f4_ := f1_.symm; have f5_ := f3_.symm; clear f1_ f2_ f3_; subst f4_; subst f5_))
        refine norm_ (a' := ?_) ?_ ?_
        rotate_left
        ·
         simp only [putAll, Act.put, List.setIfInBounds_toArray, List.set_cons_zero, List.set_cons_succ]
         rfl
        refine one_ (i := 14) (N := some 33) #[true, true, true, true, true, true, true, true, true, true, true, true, true, true, true, true, false, false, false] rfl rfl (one_of HT_.out (by kernel_rfl)) (by decide) (fun K hK => ?_)
        refine Kd.R_append_rows_step (Kd.int .i64) (w0 := w) w.heap.size (by rfl) (.tmp 30) (.tmp 32) 22 3 (.int .i64 0) 8 rfl Try.underlying22 info3 rfl (by decide) (by omega) (.slice Ao22 x543001_1.length co22) x543001_1 y554 _ _ _ (fun k_ => some k_ ≠ (.slice (some ad547) t543.length co24 : Value).ownBlock ∧ some k_ ≠ (v549 : Value).ownBlock ∧ some k_ ≠ (v552 : Value).ownBlock ∧ some k_ ≠ (.slice Ao33 y554.length co33 : Value).ownBlock) (fun _ => False) rfl rfl ?aO ?aR (fun _ _ h => h) (fun _ h => h.elim) ?aF ?aB ?aS ?aL ?_
        (case aR => repeat (first | exact (Kd.R_reads' HO556.out).2.2 | (with_reducible refine Kd.C_alloc ?_ _) | (with_reducible refine Kd.C_drewN ?_ _) | (with_reducible refine Kd.C_drew ?_)))
        (case aB => exact (by repeat (first | (with_reducible first | exact HB.out | apply below_alloc | apply pw_below_drewN | apply below_drew1 | refine below_set ?_ GE540.out | refine below_set ?_ GE541.out | refine below_set ?_ GE542.out) | exact HB.out)))
        (case aF => exact (fun k_ hk => ⟨Kd.fresh' (Kd.R_lt (by (with_reducible repeat (first | apply Kd.R_alloc | apply Kd.R_drewN | apply Kd.R_drew)); exact HO545.out)) k_ hk, Kd.fresh' (Kd.R_lt (by (with_reducible repeat (first | apply Kd.R_alloc | apply Kd.R_drewN | apply Kd.R_drew)); exact HO550.out)) k_ hk, Kd.fresh' (Kd.R_lt (by (with_reducible repeat (first | apply Kd.R_alloc | apply Kd.R_drewN | apply Kd.R_drew)); exact HO553.out)) k_ hk, Kd.fresh' (Kd.R_lt (by (with_reducible repeat (first | apply Kd.R_alloc | apply Kd.R_drewN | apply Kd.R_drew)); exact HO556.out)) k_ hk⟩))
        (case aO => exact (by (with_reducible repeat (first | apply Kd.R_alloc | apply Kd.R_drewN | apply Kd.R_drew)); exact HO_543001.out))
        (case aS => exact (below_size (by repeat (first | (with_reducible first | exact HB.out | apply below_alloc | apply pw_below_drewN | apply below_drew1 | refine below_set ?_ GE540.out | refine below_set ?_ GE541.out | refine below_set ?_ GE542.out) | exact HB.out))))
        (case aL => have := LMc16.out; omega)
        intro v558 w32 ho hb hg hat
        (first | have HS2_ := cell_grown hg (hHeld.2.2) (by first | (rw [add_block]; exact (by have h_ := HO545.out.1 _ rfl; first | exact h_ | exact h_.1 | exact h_.2 | exact h_.1.1 | exact h_.1.2 | exact h_.2.1 | exact h_.2.2 | exact h_.1.1.1 | exact h_.1.1.2 | exact h_.1.2.1 | exact h_.1.2.2 | exact h_.2.1.1 | exact h_.2.1.2 | exact h_.2.2.1 | exact h_.2.2.2 | exact h_.1.1.1.1 | exact h_.1.1.1.2 | exact h_.1.1.2.1 | exact h_.1.1.2.2 | exact h_.1.2.1.1 | exact h_.1.2.1.2 | exact h_.1.2.2.1 | exact h_.1.2.2.2 | exact fun e_ => absurd (HO_543001.out.1 _ e_.symm) (by simp))) | (show some (Addr.add _ _).block ≠ _; rw [add_block]; exact (by have h_ := HO545.out.1 _ rfl; first | exact h_ | exact h_.1 | exact h_.2 | exact h_.1.1 | exact h_.1.2 | exact h_.2.1 | exact h_.2.2 | exact h_.1.1.1 | exact h_.1.1.2 | exact h_.1.2.1 | exact h_.1.2.2 | exact h_.2.1.1 | exact h_.2.1.2 | exact h_.2.2.1 | exact h_.2.2.2 | exact h_.1.1.1.1 | exact h_.1.1.1.2 | exact h_.1.1.2.1 | exact h_.1.1.2.2 | exact h_.1.2.1.1 | exact h_.1.2.1.2 | exact h_.1.2.2.1 | exact h_.1.2.2.2 | exact fun e_ => absurd (HO_543001.out.1 _ e_.symm) (by simp))) | exact (by have h_ := HO545.out.1 _ rfl; first | exact h_ | exact h_.1 | exact h_.2 | exact h_.1.1 | exact h_.1.2 | exact h_.2.1 | exact h_.2.2 | exact h_.1.1.1 | exact h_.1.1.2 | exact h_.1.2.1 | exact h_.1.2.2 | exact h_.2.1.1 | exact h_.2.1.2 | exact h_.2.2.1 | exact h_.2.2.2 | exact h_.1.1.1.1 | exact h_.1.1.1.2 | exact h_.1.1.2.1 | exact h_.1.1.2.2 | exact h_.1.2.1.1 | exact h_.1.2.1.2 | exact h_.1.2.2.1 | exact h_.1.2.2.2 | exact fun e_ => absurd (HO_543001.out.1 _ e_.symm) (by simp))) | have HS2_ := cell_grown hg (cell_unalloc (hHeld.2.2) (by first | (rw [add_block]; exact Kd.R_lt HO545.out _ rfl) | (show (Addr.add _ _).block < _; rw [add_block]; exact Kd.R_lt HO545.out _ rfl) | exact Kd.R_lt HO545.out _ rfl)) (by first | (rw [add_block]; exact (by have h_ := HO545.out.1 _ rfl; first | exact h_ | exact h_.1 | exact h_.2 | exact h_.1.1 | exact h_.1.2 | exact h_.2.1 | exact h_.2.2 | exact h_.1.1.1 | exact h_.1.1.2 | exact h_.1.2.1 | exact h_.1.2.2 | exact h_.2.1.1 | exact h_.2.1.2 | exact h_.2.2.1 | exact h_.2.2.2 | exact h_.1.1.1.1 | exact h_.1.1.1.2 | exact h_.1.1.2.1 | exact h_.1.1.2.2 | exact h_.1.2.1.1 | exact h_.1.2.1.2 | exact h_.1.2.2.1 | exact h_.1.2.2.2 | exact fun e_ => absurd (HO_543001.out.1 _ e_.symm) (by simp))) | (show some (Addr.add _ _).block ≠ _; rw [add_block]; exact (by have h_ := HO545.out.1 _ rfl; first | exact h_ | exact h_.1 | exact h_.2 | exact h_.1.1 | exact h_.1.2 | exact h_.2.1 | exact h_.2.2 | exact h_.1.1.1 | exact h_.1.1.2 | exact h_.1.2.1 | exact h_.1.2.2 | exact h_.2.1.1 | exact h_.2.1.2 | exact h_.2.2.1 | exact h_.2.2.2 | exact h_.1.1.1.1 | exact h_.1.1.1.2 | exact h_.1.1.2.1 | exact h_.1.1.2.2 | exact h_.1.2.1.1 | exact h_.1.2.1.2 | exact h_.1.2.2.1 | exact h_.1.2.2.2 | exact fun e_ => absurd (HO_543001.out.1 _ e_.symm) (by simp))) | exact (by have h_ := HO545.out.1 _ rfl; first | exact h_ | exact h_.1 | exact h_.2 | exact h_.1.1 | exact h_.1.2 | exact h_.2.1 | exact h_.2.2 | exact h_.1.1.1 | exact h_.1.1.2 | exact h_.1.2.1 | exact h_.1.2.2 | exact h_.2.1.1 | exact h_.2.1.2 | exact h_.2.2.1 | exact h_.2.2.2 | exact h_.1.1.1.1 | exact h_.1.1.1.2 | exact h_.1.1.2.1 | exact h_.1.1.2.2 | exact h_.1.2.1.1 | exact h_.1.2.1.2 | exact h_.1.2.2.1 | exact h_.1.2.2.2 | exact fun e_ => absurd (HO_543001.out.1 _ e_.symm) (by simp))))
        rw [← Ny557.out] at ho
        have n0_ := Aside0.mk (blk_grown (g := gb540) (o := .cells #[.int .i64 a0_0, .slice A0_1 l0_1.length c0_1] 26 (0, 0)) (by (with_reducible repeat (first | refine blk_drewN ?_ _ | refine blk_drew ?_ | refine blk_alloc ?_ _)); exact BK540.out) hg (Kd.R_ne HO_543001.out BK540.out (by decide)))
        have n1_ := Aside0.mk (blk_grown (g := gb541) (o := .cells #[.slice none 0 0, .slice none 0 0] 36 (0, 0)) (by (with_reducible repeat (first | refine blk_drewN ?_ _ | refine blk_drew ?_ | refine blk_alloc ?_ _)); exact BK541.out) hg (Kd.R_ne HO_543001.out BK541.out (by decide)))
        have n2_ := Aside0.mk (blk_grown (g := gb542) (o := .cells #[.slice Ao21 x543000_1.length co21, .slice Ao22 x543001_1.length co22] 36 (0, 0)) (by (with_reducible repeat (first | refine blk_drewN ?_ _ | refine blk_drew ?_ | refine blk_alloc ?_ _)); exact BK542.out) hg (Kd.R_ne HO_543001.out BK542.out (by decide)))
        have n3_ := Aside0.mk (Kd.R_after (ok := (fun k_ => some k_ ≠ (v549 : Value).ownBlock ∧ some k_ ≠ (v552 : Value).ownBlock ∧ some k_ ≠ (.slice Ao33 y554.length co33 : Value).ownBlock)) (by (with_reducible repeat (first | apply Kd.R_alloc | apply Kd.R_drewN | apply Kd.R_drew)); exact Kd.R_mono HO545.out (fun _ hk => ⟨⟨hk.1, ⟨hk.2.1, hk.2.2.1⟩⟩, hk.2.2.2⟩)) hg hat)
        have n4_ := Aside0.mk (Kd.R_after (ok := (fun k_ => some k_ ≠ (.slice (some ad547) t543.length co24 : Value).ownBlock ∧ some k_ ≠ (v552 : Value).ownBlock ∧ some k_ ≠ (.slice Ao33 y554.length co33 : Value).ownBlock)) (by (with_reducible repeat (first | apply Kd.R_alloc | apply Kd.R_drewN | apply Kd.R_drew)); exact Kd.R_mono HO550.out (fun _ hk => ⟨⟨hk.1, ⟨hk.2.1, hk.2.2.1⟩⟩, hk.2.2.2⟩)) hg hat)
        have n5_ := Aside0.mk (Kd.R_after (ok := (fun k_ => some k_ ≠ (.slice (some ad547) t543.length co24 : Value).ownBlock ∧ some k_ ≠ (v549 : Value).ownBlock ∧ some k_ ≠ (.slice Ao33 y554.length co33 : Value).ownBlock)) (by (with_reducible repeat (first | apply Kd.R_alloc | apply Kd.R_drewN | apply Kd.R_drew)); exact Kd.R_mono HO553.out (fun _ hk => ⟨⟨hk.1, ⟨hk.2.1, hk.2.2.1⟩⟩, hk.2.2.2⟩)) hg hat)
        have n6_ := Aside0.mk (Kd.R_after (ok := (fun k_ => some k_ ≠ (.slice (some ad547) t543.length co24 : Value).ownBlock ∧ some k_ ≠ (v549 : Value).ownBlock ∧ some k_ ≠ (v552 : Value).ownBlock)) (by (with_reducible repeat (first | apply Kd.R_alloc | apply Kd.R_drewN | apply Kd.R_drew)); exact Kd.R_mono HO556.out (fun _ hk => ⟨⟨hk.1, ⟨hk.2.1, hk.2.2.1⟩⟩, hk.2.2.2⟩)) hg hat)
        have n7_ := Aside0.mk (hb)
        have n8_ := Aside0.mk (ho)
        clear BK540
        clear BK541
        clear BK542
        clear HO545
        clear HO550
        clear HO553
        clear HO556
        clear HB
        clear HO_543001
        have BK540 := n0_
        have BK541 := n1_
        have BK542 := n2_
        have HO545 := n3_
        have HO550 := n4_
        have HO553 := n5_
        have HO556 := n6_
        have HB := n7_
        have HO559 := n8_
        clear n0_ n1_ n2_ n3_ n4_ n5_ n6_ n7_ n8_
        clear ho hb hg hat
        obtain ⟨Ao34, co34, eo34⟩ := Kd.R_slice HO553.out
        (first | subst eo34 | (injection eo34 with f1_ f2_ f3_; have f4_ := f1_.symm; have f5_ := f3_.symm; clear f1_ f2_ f3_; subst f4_; subst f5_))
        obtain ⟨Ao36, co36, eo36⟩ := Kd.R_slice HO559.out
        (first | subst eo36 | (injection eo36 with f1_ f2_ f3_; have f4_ := f1_.symm; have f5_ := f3_.symm; clear f1_ f2_ f3_; subst f4_; subst f5_))
        refine hK.out _ _ ⟨(blk_cell BK542.out 0).trans rfl, (blk_cell BK542.out 1).trans rfl, HS2_⟩ (fun hHeld => ?_)
        clear hK K
        refine norm_ (a' := ?_) ?_ ?_
        rotate_left
        ·
         show Act.put _ (some 33) _ = _
         simp only [Act.put, List.setIfInBounds_toArray, List.set_cons_zero, List.set_cons_succ, i64_w, i32_w]
         rfl
        refine last_ (i := 16) (N := none) #[true, true, true, true, true, true, true, true, true, true, true, true, true, true, true, true, true, false, false] rfl rfl (one_of HT_.out (by kernel_rfl)) (by decide) (fun K hK => ?_)
        have hs35 : w32.cell? ⟨gb542, 0, none⟩ = some (.slice Ao21 x543000_1.length co21) := (blk_cell BK542.out 0).trans rfl
        have hfs35 := blk_frozen BK542.out 0
        have hns35_0 := NB540_542.out
        have hns35_1 := NB541_542.out
        have hms35_0 := NB542_540.out
        have hms35_1 := NB542_541.out
        refine skip_ (w1 := ?_) (by rfl) rfl ?_ ?_
        rotate_left
        ·
         go_simp
         rfl
        refine hK.out _ _ ?_
        clear hK K
        refine pure_ (i := 17) (N := some 35) (v := ?_) (a' := ?_) #[true, true, true, true, true, true, true, true, true, true, true, true, true, true, true, true, true, true, false] rfl rfl (any_of HT_.out (by kernel_rfl)) (fun _ _ _ h => h) (Or.inl ⟨by rfl, ?_⟩) ?_ ?_
        rotate_left
        ·
         intro w'
         go_simp
         with_reducible rfl
        rotate_left
        ·
         simp only [Act.put, List.setIfInBounds_toArray, List.set_cons_zero, List.set_cons_succ, i64_w, i32_w]
         rfl
        refine last_ (i := 18) (N := none) #[true, true, true, true, true, true, true, true, true, true, true, true, true, true, true, true, true, true, true] rfl rfl (one_of HT_.out (by kernel_rfl)) (by decide) (fun K hK => ?_)
        have hs37 : w32.cell? ⟨gb542, 1, none⟩ = some (.slice Ao22 x543001_1.length co22) := (blk_cell BK542.out 1).trans rfl
        have hfs37 := blk_frozen BK542.out 1
        have hns37_0 := NB540_542.out
        have hns37_1 := NB541_542.out
        have hms37_0 := NB542_540.out
        have hms37_1 := NB542_541.out
        refine skip_ (w1 := ?_) (by rfl) rfl ?_ ?_
        rotate_left
        ·
         go_simp
         rfl
        refine hK.out _ _ ?_
        clear hK K
        refine done_ (done_of HT_.out (by kernel_rfl)) ?_
        try go_wp2
        go_roundg k1
        case measure => have := HK1.out; omega
        case rel => exact ⟨(wrap64 (x10_1 + 1)), (y551), (y557), (.slice Ao34 y551.length co34), (.slice Ao36 y557.length co36), (by first | rfl | (simp; done) | (simp [*]; done)), H', ⟨by have := HK1.out; omega⟩, ⟨by (with_reducible repeat (first | apply Kd.R_alloc | apply Kd.R_drewN | apply Kd.R_drew)); exact Kd.R_mono (Kd.R_far (p := ⟨gb542, 1, none⟩) (Kd.R_far (p := ⟨gb542, 0, none⟩) (Kd.R_types HO553.out BK542.out (by decide)) (fun _ hk => hk.2) (.slice Ao34 y551.length co34)) (fun _ hk => hk.2) (.slice Ao36 y557.length co36)) (fun _ hk => hk.1.2)⟩, ⟨by (with_reducible repeat (first | apply Kd.R_alloc | apply Kd.R_drewN | apply Kd.R_drew)); exact Kd.R_mono (Kd.R_far (p := ⟨gb542, 1, none⟩) (Kd.R_far (p := ⟨gb542, 0, none⟩) (Kd.R_types HO559.out BK542.out (by decide)) (fun _ hk => hk.2) (.slice Ao34 y551.length co34)) (fun _ hk => hk.2) (.slice Ao36 y557.length co36)) (fun _ hk => hk.1.2.2.1)⟩, ⟨by (with_reducible repeat (first | refine blk_drewN ?_ _ | refine blk_drew ?_ | refine blk_alloc ?_ _)); refine blk_far ?_ NB540_542.out _; (with_reducible repeat (first | refine blk_drewN ?_ _ | refine blk_drew ?_ | refine blk_alloc ?_ _)); refine blk_far ?_ NB540_542.out _; (with_reducible repeat (first | refine blk_drewN ?_ _ | refine blk_drew ?_ | refine blk_alloc ?_ _)); exact BK540.out⟩, ⟨by (with_reducible repeat (first | refine blk_drewN ?_ _ | refine blk_drew ?_ | refine blk_alloc ?_ _)); refine blk_far ?_ NB541_542.out _; (with_reducible repeat (first | refine blk_drewN ?_ _ | refine blk_drew ?_ | refine blk_alloc ?_ _)); refine blk_far ?_ NB541_542.out _; (with_reducible repeat (first | refine blk_drewN ?_ _ | refine blk_drew ?_ | refine blk_alloc ?_ _)); exact BK541.out⟩, ⟨by (with_reducible repeat (first | refine blk_drewN ?_ _ | refine blk_drew ?_ | refine blk_alloc ?_ _)); refine blk_put (cs := #[.slice Ao34 y551.length co34, .slice Ao22 x543001_1.length co22]) ?_ 1 _ rfl; (with_reducible repeat (first | refine blk_drewN ?_ _ | refine blk_drew ?_ | refine blk_alloc ?_ _)); refine blk_put (cs := #[.slice Ao21 x543000_1.length co21, .slice Ao22 x543001_1.length co22]) ?_ 0 _ rfl; (with_reducible repeat (first | refine blk_drewN ?_ _ | refine blk_drew ?_ | refine blk_alloc ?_ _)); exact BK542.out⟩, ⟨by repeat (first | (with_reducible first | exact HB.out | apply below_alloc | apply pw_below_drewN | apply below_drew1 | refine below_set ?_ GE540.out | refine below_set ?_ GE541.out | refine below_set ?_ GE542.out) | exact HB.out)⟩⟩
       ·
        rw [if_neg c16] at H
        exact absurd H (by simp)
      ·
       rw [if_neg c15] at H
       exact absurd H (by simp)
     ·
      rw [if_neg c14] at H
      exact absurd H (by simp)
    ·
     rw [if_neg c13] at H
     exact absurd H (by simp)
   ·
    rw [if_neg c10] at H
    have c10b0 : decide (x10_1 < a0_0) = false := decide_eq_false c10
    clear c10
    simp only [Option.some.injEq, Prod.mk.injEq] at H
    obtain ⟨rfl, rfl⟩ := H
    have hnb38 := NB542_540.out
    have hnc38 := NB540_542.out
    have hnb39 := NB542_541.out
    have hnc39 := NB541_542.out
    have hcz40_0 : wr.cell? ⟨gb542, 0, none⟩ = some (u543000) := (blk_cell BK542.out 0).trans rfl
    have hcz40_1 : wr.cell? ⟨gb542, 1, none⟩ = some (u543001) := (blk_cell BK542.out 1).trans rfl
    have hfz40_0 := blk_frozen BK542.out 0
    have hfz40_1 := blk_frozen BK542.out 1
    obtain ⟨Ao41, co41, eo41⟩ := Kd.R_slice HO_543000.out
    subst eo41
    have hnb42 := NB541_540.out
    have hnc42 := NB540_541.out
    have hcz43_0 : wr.cell? ⟨gb541, 0, none⟩ = some (.slice none 0 0) := (blk_cell BK541.out 0).trans rfl
    have hcz43_1 : wr.cell? ⟨gb541, 1, none⟩ = some (.slice none 0 0) := (blk_cell BK541.out 1).trans rfl
    have hfz43_0 := blk_frozen BK541.out 0
    have hfz43_1 := blk_frozen BK541.out 1
    obtain ⟨Ao44, co44, eo44⟩ := Kd.R_slice HO_543001.out
    subst eo44
    go_wp2
    refine bodyPost_ret (results_cell_row rfl _ _ gb541 36 #[.slice Ao41 x543000_1.length co41, .slice Ao44 x543001_1.length co44] (0, 0) _ rfl (by (with_reducible repeat (first | refine blk_drewN ?_ _ | refine blk_drew ?_ | refine blk_alloc ?_ _)); refine blk_put (cs := #[.slice Ao41 x543000_1.length co41, .slice none 0 0]) ?_ 1 _ rfl; (with_reducible repeat (first | refine blk_drewN ?_ _ | refine blk_drew ?_ | refine blk_alloc ?_ _)); refine blk_put (cs := #[.slice none 0 0, .slice none 0 0]) ?_ 0 _ rfl; (with_reducible repeat (first | refine blk_drewN ?_ _ | refine blk_drew ?_ | refine blk_alloc ?_ _)); exact BK541.out) Try.underlying36 rfl (by kernel_rfl)) rfl ?_
    exact ⟨_, _, by first | rfl | (simp [errW_none, errW_some] <;> rfl) | (simp [*, errW_none, errW_some] <;> rfl), by (with_reducible repeat (first | apply Kd.R_alloc | apply Kd.R_drewN | apply Kd.R_drew)); exact Kd.R_mono (Kd.R_far (p := ⟨gb541, 1, none⟩) (Kd.R_far (p := ⟨gb541, 0, none⟩) (Kd.R_types HO_543000.out BK541.out (by decide)) (fun _ hk => hk.2) (.slice Ao41 x543000_1.length co41)) (fun _ hk => hk.2) (.slice Ao44 x543001_1.length co44)) (fun _ hk => hk.1), by (with_reducible repeat (first | apply Kd.R_alloc | apply Kd.R_drewN | apply Kd.R_drew)); exact Kd.R_mono (Kd.R_far (p := ⟨gb541, 1, none⟩) (Kd.R_far (p := ⟨gb541, 0, none⟩) (Kd.R_types HO_543001.out BK541.out (by decide)) (fun _ hk => hk.2) (.slice Ao41 x543000_1.length co41)) (fun _ hk => hk.2) (.slice Ao44 x543001_1.length co44)) (fun _ hk => hk.1), by repeat (first | (with_reducible first | exact HB.out | apply below_alloc | apply pw_below_drewN | apply below_drew1 | refine below_set ?_ GE540.out | refine below_set ?_ GE541.out | refine below_set ?_ GE542.out) | exact HB.out)⟩

/-! ### impl_PoleResult: function 28 -/
end Go.Proofs.Ytgjamcfnpofbhaa.Q
