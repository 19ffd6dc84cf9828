/- Each function below comes to the Lean function beside it (theorems '.calls'); no condition beyond each theorem's own. Written by our program oprint.py over the kit's print. -/
import Derived.Test.YtgjamcfnpofbhaaQx0
import Derived.Test.YtgjamcfnpofbhaaQx11
import Derived.Test.YtgjamcfnpofbhaaQx14
import Derived.Test.YtgjamcfnpofbhaaQx22
import Derived.Test.YtgjamcfnpofbhaaQx29
import Derived.Test.YtgjamcfnpofbhaaQx31
namespace Go.Proofs.Ytgjamcfnpofbhaa.Q
open Go.RowKit Go.Proofs.YtgjamcfnpofbhaaW.PrintWords Go.Proofs.YtgjamcfnpofbhaaW.PrintLast Go.Proofs.YtgjamcfnpofbhaaW.PrintMore
attribute [local go_sem] max2_int min2_int max_two min_two max_three min_three max_four min_four   -- for this text's walks alone
set_option linter.unusedVariables false
set_option linter.unusedSimpArgs false

/-! ### impl_LeastPole: function 30 -/
mutual
def impl_LeastPole.j0 : Nat → Bool → List Int → List Int → Option (Int × List Int × Bool)
 | 0, _, _, _ => none
 | k + 1, x14, x725000, x725001 => if x14 = true then (some (0, ([] : List Int), false)) else ((impl_poleDescents.f x725000 x725001).bind fun t729 => (impl_LeastPole.l0 k t729 x725000 x725001 (x725000.length : Int) ([] : List Int)))
def impl_LeastPole.l0 : Nat → List Int → List Int → List Int → Int → List Int → Option (Int × List Int × Bool)
 | 0, _, _, _, _, _ => none
 | k + 1, x5, x725000, x725001, x729000, x729001 => if (x5.length : Int) > 0 then (if 1 ≤ (x5.length : Int) then ((impl_poleResult.f k x729000 (x5.take 1)).bind fun bt736 => (if 0 < (x5.length : Int) then (if x729001.length < 17592186044416 then ((impl_thenTurned.f k bt736.1 bt736.2 x725000 x725001).bind fun bt747 => ((impl_poleDescents.f bt747.1 bt747.2).bind fun t753 => (impl_LeastPole.l0 k t753 bt747.1 bt747.2 x729000 (x729001 ++ [rd x5 0])))) else (none)) else (none))) else (none)) else (some (x729000, x729001, true))
end
def impl_LeastPole.f (k : Nat) (l0_0 : List Int) (l0_1 : List Int) : Option (Int × List Int × Bool) := (impl_isTurned.f k l0_0 l0_1).bind fun t726 => (if t726 = true then ((impl_poleInversions.f l0_0 l0_1).bind fun t727 => (impl_LeastPole.j0 k (decide (t727 > 60)) l0_0 l0_1)) else (impl_LeastPole.j0 k true l0_0 l0_1))
def impl_LeastPole.T7 : Bool × List (List Nat × List Nat) := (true, [([], []), ([0], [0]), ([], []), ([2], [2]), ([1, 3], [1, 3]), ([4], [4]), ([], []), ([6, 5, 5, 0, 1, 2, 3, 4, 5, 6], [5, 6])])
def impl_LeastPole.B7 : List Nat := [0, 1, 0, 4, 15, 31, 0, 127]
theorem impl_LeastPole.tab7 : rtab .any (opsOf Try.f30 7) = impl_LeastPole.T7 := by kernel_rfl
theorem impl_LeastPole.bits7 : waitsOk impl_LeastPole.T7.2 impl_LeastPole.B7 = true := by kernel_rfl
def impl_LeastPole.T8 : Bool × List (List Nat × List Nat) := (true, [([], []), ([0], [0]), ([], []), ([2], [2]), ([3], [3]), ([4], [4]), ([1, 5], [1, 5]), ([], []), ([], []), ([7, 8, 6], [7, 8]), ([0, 1, 2, 3, 4, 5, 6], []), ([10, 6, 9, 0, 1, 2, 3, 4, 5, 6], [6, 10]), ([9, 11, 0, 1, 2, 3, 4, 5, 6, 7, 8, 9, 10, 11], [9])])
def impl_LeastPole.B8 : List Nat := [0, 1, 0, 4, 12, 28, 63, 0, 0, 511, 127, 2047, 4095]
theorem impl_LeastPole.tab8 : rtab .any (opsOf Try.f30 8) = impl_LeastPole.T8 := by kernel_rfl
theorem impl_LeastPole.bits8 : waitsOk impl_LeastPole.T8.2 impl_LeastPole.B8 = true := by kernel_rfl
set_option maxHeartbeats 8000000 in
set_option maxRecDepth 100000 in
theorem impl_LeastPole.calls (k : Nat) (P0_0_ : Nat → Prop) (A0_0 : Option Addr) (c0_0 : Nat) (l0_0 : List Int) (P0_1_ : Nat → Prop) (A0_1 : Option Addr) (c0_1 : Nat) (l0_1 : List Int) (r1 : Int) (r2 : List Int) (r3 : Bool) (w : World) (hs0_0 : Kd.V (Kd.int .i64) 3 w w.heap.size (fun k_ => P0_0_ k_) (.slice A0_0 l0_0.length c0_0) l0_0) (hs0_1 : Kd.V (Kd.int .i64) 3 w w.heap.size (fun k_ => P0_1_ k_) (.slice A0_1 l0_1.length c0_1) l0_1) (h : impl_LeastPole.f k l0_0 l0_1 = some (r1, r2, r3)) :
  Calls Try.prog 30 #[.agg #[.slice A0_0 l0_0.length c0_0, .slice A0_1 l0_1.length c0_1]] w fun e w' => ∃ v1_ : Value, e = .returned (.tuple #[.agg #[.int .i64 r1, v1_], .bool r3]) ∧ Kd.R (Kd.int .i64) 3 w' w.heap.size (fun k_ => (w.heap.size ≤ k_)) v1_ r2 ∧ Below w.heap.size w w' := by
 have hu36 := Try.underlying36
 have hu26 := Try.underlying26
 have HO0_0 := Aside0.mk (show Kd.V (Kd.int .i64) 3 w w.heap.size (fun k_ => ((P0_0_ k_ ∨ P0_1_ k_) ∨ w.heap.size ≤ k_)) (.slice A0_0 l0_0.length c0_0) l0_0 from Kd.V_mono hs0_0 (fun k_ hk => .inl (.inl hk)))
 have HO0_1 := Aside0.mk (show Kd.V (Kd.int .i64) 3 w w.heap.size (fun k_ => ((P0_0_ k_ ∨ P0_1_ k_) ∨ w.heap.size ≤ k_)) (.slice A0_1 l0_1.length c0_1) l0_1 from Kd.V_mono hs0_1 (fun k_ hk => .inl (.inr hk)))
 have HB := Aside0.mk (Below.refl w.heap.size w)
 have H : ((impl_isTurned.f k l0_0 l0_1).bind fun t726 => (if t726 = true then ((impl_poleInversions.f l0_0 l0_1).bind fun t727 => (impl_LeastPole.j0 k (decide (t727 > 60)) l0_0 l0_1)) else (impl_LeastPole.j0 k true l0_0 l0_1))) = some (r1, r2, r3) := h
 clear h
 have HC2 := Aside0.mk H
 clear H
 go_enter Try.func30, Try.ntmps30
 go_upto_region 1 with (first | ((with_reducible refine gate_dst (N := 1) rfl ?_); refine box_event ?hg (N := 1) ?hd (cs := #[.slice A0_0 l0_0.length c0_0, .slice A0_1 l0_1.length c0_1]) (t := 36) ?hr ?_; (case hd => rfl); (case hg => rfl); (case hr => first | (go_simp; done) | (go_simp; rfl)); intro gb724 hg w3 hbox hb; have n0_ := Aside0.mk (Kd.V_below (Kd.V_elderB (by (with_reducible repeat (first | apply Kd.V_alloc | apply Kd.V_drewN | apply Kd.V_drew)); exact HO0_0.out) gb724 (Nat.le_of_eq hg.symm)) hb); have n1_ := Aside0.mk (Kd.V_below (Kd.V_elderB (by (with_reducible repeat (first | apply Kd.V_alloc | apply Kd.V_drewN | apply Kd.V_drew)); exact HO0_1.out) gb724 (Nat.le_of_eq hg.symm)) hb); have n2_ := Aside0.mk (below_step (by repeat (first | (with_reducible first | exact HB.out | apply below_alloc | apply pw_below_drewN | apply below_drew1) | exact HB.out)) hb); have n3_ := Aside0.mk (hbox); have n4_ := Aside0.mk ((by rw [hg]; exact (below_size (by repeat (first | (with_reducible first | exact HB.out | apply below_alloc | apply pw_below_drewN | apply below_drew1) | exact HB.out))) : w.heap.size ≤ gb724)); have n5_ := Aside0.mk ((by rw [hg]; exact (below_size (by repeat (first | (with_reducible first | exact HB.out | apply below_alloc | apply pw_below_drewN | apply below_drew1) | exact HB.out))) : w.heap.size ≤ gb724)); clear HO0_0; clear HO0_1; clear HB; have HO0_0 := n0_; have HO0_1 := n1_; have HB := n2_; have BK724 := n3_; have GW724 := n4_; have GE724 := n5_; clear n0_ n1_ n2_ n3_ n4_ n5_; clear hb hbox hg) | ((with_reducible refine gate_dst (N := 2) rfl ?_); refine box_event ?hg (N := 2) ?hd (cs := #[.int .i64 0, .slice none 0 0]) (t := 26) ?hr ?_; (case hd => rfl); (case hg => rfl); (case hr => first | (go_simp; done) | (go_simp; rfl)); intro gb725 hg w4 hbox hb; have n0_ := Aside0.mk (Kd.V_below (Kd.V_elderB (by (with_reducible repeat (first | apply Kd.V_alloc | apply Kd.V_drewN | apply Kd.V_drew)); exact HO0_0.out) gb725 (Nat.le_of_eq hg.symm)) hb); have n1_ := Aside0.mk (Kd.V_below (Kd.V_elderB (by (with_reducible repeat (first | apply Kd.V_alloc | apply Kd.V_drewN | apply Kd.V_drew)); exact HO0_1.out) gb725 (Nat.le_of_eq hg.symm)) hb); have n2_ := Aside0.mk (blk_below (g := gb724) (o := .cells #[.slice A0_0 l0_0.length c0_0, .slice A0_1 l0_1.length c0_1] 36 (0, 0)) (by (with_reducible repeat (first | refine blk_drewN ?_ _ | refine blk_drew ?_ | refine blk_alloc ?_ _)); exact BK724.out) hb); have n3_ := Aside0.mk (below_step (by repeat (first | (with_reducible first | exact HB.out | apply below_alloc | apply pw_below_drewN | apply below_drew1 | refine below_set ?_ GE724.out) | exact HB.out)) hb); have n4_ := Aside0.mk (hbox); have n5_ := Aside0.mk ((by rw [hg]; exact (below_size (by repeat (first | (with_reducible first | exact HB.out | apply below_alloc | apply pw_below_drewN | apply below_drew1 | refine below_set ?_ GE724.out) | exact HB.out))) : w.heap.size ≤ gb725)); have n6_ := Aside0.mk ((by rw [hg]; exact (below_size (by repeat (first | (with_reducible first | exact HB.out | apply below_alloc | apply pw_below_drewN | apply below_drew1 | refine below_set ?_ GE724.out) | exact HB.out))) : w.heap.size ≤ gb725)); have n7_ := Aside0.mk ((by rw [hg]; exact Nat.ne_of_lt (blk_lt (g := gb724) (o := .cells #[.slice A0_0 l0_0.length c0_0, .slice A0_1 l0_1.length c0_1] 36 (0, 0)) (by (with_reducible repeat (first | refine blk_drewN ?_ _ | refine blk_drew ?_ | refine blk_alloc ?_ _)); exact BK724.out)) : gb724 ≠ gb725)); have n8_ := Aside0.mk ((by rw [hg]; exact Nat.ne_of_gt (blk_lt (g := gb724) (o := .cells #[.slice A0_0 l0_0.length c0_0, .slice A0_1 l0_1.length c0_1] 36 (0, 0)) (by (with_reducible repeat (first | refine blk_drewN ?_ _ | refine blk_drew ?_ | refine blk_alloc ?_ _)); exact BK724.out)) : gb725 ≠ gb724)); clear HO0_0; clear HO0_1; clear BK724; clear HB; have HO0_0 := n0_; have HO0_1 := n1_; have BK724 := n2_; have HB := n3_; have BK725 := n4_; have GW725 := n5_; have GE725 := n6_; have NB724_725 := n7_; have NB725_724 := n8_; clear n0_ n1_ n2_ n3_ n4_ n5_ n6_ n7_ n8_; clear hb hbox hg))
 (try simp only [Act.put, List.setIfInBounds_toArray, List.set_cons_zero, List.set_cons_succ])
 go_cut [14] (fun v14 wc => ∃ (kq : Nat) (x14_1 : Bool), v14 = .bool x14_1 ∧ Aside0 (impl_LeastPole.j0 kq x14_1 l0_0 l0_1 = some (r1, r2, r3)) ∧ Aside0 (kq ≤ k) ∧ Aside0 (Kd.V (Kd.int .i64) 3 wc w.heap.size (fun k_ => ((P0_0_ k_ ∨ P0_1_ k_) ∨ w.heap.size ≤ k_) ∧ k_ ≠ gb724 ∧ k_ ≠ gb725) (.slice A0_0 l0_0.length c0_0) l0_0) ∧ Aside0 (Kd.V (Kd.int .i64) 3 wc w.heap.size (fun k_ => ((P0_0_ k_ ∨ P0_1_ k_) ∨ w.heap.size ≤ k_) ∧ k_ ≠ gb724 ∧ k_ ≠ gb725) (.slice A0_1 l0_1.length c0_1) l0_1) ∧ Aside0 (wc.heap[gb724]? = some (.cells #[(.slice A0_0 l0_0.length c0_0), (.slice A0_1 l0_1.length c0_1)] 36 (0, 0))) ∧ Aside0 (wc.heap[gb725]? = some (.cells #[.int .i64 0, (.slice none 0 0)] 26 (0, 0))) ∧ Aside0 (Below w.heap.size w wc))
 case first =>
  have H := HC2.out
  clear HC2
  replace H := Option.bind_eq_some_iff.mp H
  obtain ⟨t726, A50, H⟩ := H
  replace H : (if t726 = true then ((impl_poleInversions.f l0_0 l0_1).bind fun t727 => (impl_LeastPole.j0 k (decide (t727 > 60)) l0_0 l0_1)) else (impl_LeastPole.j0 k true l0_0 l0_1)) = some (r1, r2, r3) := H
  have A5 := Aside0.mk A50
  clear A50
  by_cases c6 : t726 = true
  ·
   subst c6
   have H1 : ((impl_poleInversions.f l0_0 l0_1).bind fun t727 => (impl_LeastPole.j0 k (decide (t727 > 60)) l0_0 l0_1)) = some (r1, r2, r3) := by rw [if_pos rfl] at H; exact H
   clear H
   have H := H1
   clear H1
   replace H := Option.bind_eq_some_iff.mp H
   obtain ⟨t727, A70, H⟩ := H
   replace H : (impl_LeastPole.j0 k (decide (t727 > 60)) l0_0 l0_1) = some (r1, r2, r3) := H
   have A7 := Aside0.mk A70
   clear A70
   have H' := Aside0.mk H
   clear H
   have hnb8 := NB724_725.out
   have hnc8 := NB725_724.out
   have hcz9_0 : w4.cell? ⟨gb724, 0, none⟩ = some (.slice A0_0 l0_0.length c0_0) := (blk_cell BK724.out 0).trans rfl
   have hcz9_1 : w4.cell? ⟨gb724, 1, none⟩ = some (.slice A0_1 l0_1.length c0_1) := (blk_cell BK724.out 1).trans rfl
   have hfz9_0 := blk_frozen BK724.out 0
   have hfz9_1 := blk_frozen BK724.out 1
   go_wp2_with (first | ((with_reducible refine gate_callee (f := 45) rfl ?_); refine goesL_ (some 8) rfl rfl Try.func45 (by kernel_rfl) rfl #[.agg #[.slice A0_0 l0_0.length c0_0, .slice A0_1 l0_1.length c0_1]] rfl (by (try simp only [List.map_toArray, List.map_cons, List.map_nil]); first | done | rfl | (simp only [List.length_drop, List.length_take]; rfl)) ?_; (with_reducible refine (impl_isTurned.calls k _ _ l0_0 _ _ l0_1 true _ ?side1 ?side2 ?side3 ?side4 A5.out).mono ?_); (case side1 => repeat (first | exact (Kd.V_reads' HO0_0.out).2.2 | (with_reducible refine Kd.C_alloc ?_ _) | (with_reducible refine Kd.C_drewN ?_ _) | (with_reducible refine Kd.C_drew ?_))); (case side2 => exact (Kd.V_reads' HO0_0.out).2.1); (case side3 => repeat (first | exact (Kd.V_reads' HO0_1.out).2.2 | (with_reducible refine Kd.C_alloc ?_ _) | (with_reducible refine Kd.C_drewN ?_ _) | (with_reducible refine Kd.C_drew ?_))); (case side4 => exact (Kd.V_reads' HO0_1.out).2.1); rintro e w10 ⟨rfl, hb⟩; refine ⟨_, rfl, ?_⟩; have n0_ := Aside0.mk (Kd.V_below (by (with_reducible repeat (first | apply Kd.V_alloc | apply Kd.V_drewN | apply Kd.V_drew)); exact HO0_0.out) hb); have n1_ := Aside0.mk (Kd.V_below (by (with_reducible repeat (first | apply Kd.V_alloc | apply Kd.V_drewN | apply Kd.V_drew)); exact HO0_1.out) hb); have n2_ := Aside0.mk (blk_below (g := gb724) (o := .cells #[.slice A0_0 l0_0.length c0_0, .slice A0_1 l0_1.length c0_1] 36 (0, 0)) (by (with_reducible repeat (first | refine blk_drewN ?_ _ | refine blk_drew ?_ | refine blk_alloc ?_ _)); exact BK724.out) hb); have n3_ := Aside0.mk (blk_below (g := gb725) (o := .cells #[.int .i64 0, .slice none 0 0] 26 (0, 0)) (by (with_reducible repeat (first | refine blk_drewN ?_ _ | refine blk_drew ?_ | refine blk_alloc ?_ _)); exact BK725.out) hb); have n4_ := Aside0.mk (below_step (by repeat (first | (with_reducible first | exact HB.out | apply below_alloc | apply pw_below_drewN | apply below_drew1 | refine below_set ?_ GE724.out | refine below_set ?_ GE725.out) | exact HB.out)) hb); clear HO0_0; clear HO0_1; clear BK724; clear BK725; clear HB; have HO0_0 := n0_; have HO0_1 := n1_; have BK724 := n2_; have BK725 := n3_; have HB := n4_; clear n0_ n1_ n2_ n3_ n4_; (try clear hb); (try clear hb2); (try clear hk); (try clear hi); have hcz11_0 : w10.cell? ⟨gb724, 0, none⟩ = some (.slice A0_0 l0_0.length c0_0) := (blk_cell BK724.out 0).trans rfl; have hcz11_1 : w10.cell? ⟨gb724, 1, none⟩ = some (.slice A0_1 l0_1.length c0_1) := (blk_cell BK724.out 1).trans rfl; have hfz11_0 := blk_frozen BK724.out 0; have hfz11_1 := blk_frozen BK724.out 1) | (go_at_call 54; (with_reducible refine (impl_poleInversions.calls _ _ l0_0 _ _ l0_1 t727 _ ?side1 ?side2 ?side3 ?side4 A7.out).mono ?_); (case side1 => repeat (first | exact (Kd.V_reads' HO0_0.out).2.2 | (with_reducible refine Kd.C_alloc ?_ _) | (with_reducible refine Kd.C_drewN ?_ _) | (with_reducible refine Kd.C_drew ?_))); (case side2 => exact (Kd.V_reads' HO0_0.out).2.1); (case side3 => repeat (first | exact (Kd.V_reads' HO0_1.out).2.2 | (with_reducible refine Kd.C_alloc ?_ _) | (with_reducible refine Kd.C_drewN ?_ _) | (with_reducible refine Kd.C_drew ?_))); (case side4 => exact (Kd.V_reads' HO0_1.out).2.1); rintro e w12 ⟨rfl, hb⟩; have n0_ := Aside0.mk (Kd.V_below (by (with_reducible repeat (first | apply Kd.V_alloc | apply Kd.V_drewN | apply Kd.V_drew)); exact HO0_0.out) hb); have n1_ := Aside0.mk (Kd.V_below (by (with_reducible repeat (first | apply Kd.V_alloc | apply Kd.V_drewN | apply Kd.V_drew)); exact HO0_1.out) hb); have n2_ := Aside0.mk (blk_below (g := gb724) (o := .cells #[.slice A0_0 l0_0.length c0_0, .slice A0_1 l0_1.length c0_1] 36 (0, 0)) (by (with_reducible repeat (first | refine blk_drewN ?_ _ | refine blk_drew ?_ | refine blk_alloc ?_ _)); exact BK724.out) hb); have n3_ := Aside0.mk (blk_below (g := gb725) (o := .cells #[.int .i64 0, .slice none 0 0] 26 (0, 0)) (by (with_reducible repeat (first | refine blk_drewN ?_ _ | refine blk_drew ?_ | refine blk_alloc ?_ _)); exact BK725.out) hb); have n4_ := Aside0.mk (below_step (by repeat (first | (with_reducible first | exact HB.out | apply below_alloc | apply pw_below_drewN | apply below_drew1 | refine below_set ?_ GE724.out | refine below_set ?_ GE725.out) | exact HB.out)) hb); clear HO0_0; clear HO0_1; clear BK724; clear BK725; clear HB; have HO0_0 := n0_; have HO0_1 := n1_; have BK724 := n2_; have BK725 := n3_; have HB := n4_; clear n0_ n1_ n2_ n3_ n4_; (try clear hb); (try clear hb2); (try clear hk); (try clear hi)))
   go_meet
   case rel => exact ⟨_, (decide (t727 > 60)), (by first | rfl | (simp; done) | (simp [*]; done)), H', ⟨by first | omega | exact Nat.le_refl _⟩, ⟨by (with_reducible repeat (first | apply Kd.V_alloc | apply Kd.V_drewN | apply Kd.V_drew)); exact Kd.V_mono HO0_0.out (fun _ hk => ⟨hk.1.1, ⟨hk.1.2, hk.2⟩⟩)⟩, ⟨by (with_reducible repeat (first | apply Kd.V_alloc | apply Kd.V_drewN | apply Kd.V_drew)); exact Kd.V_mono HO0_1.out (fun _ hk => ⟨hk.1.1, ⟨hk.1.2, hk.2⟩⟩)⟩, ⟨by (with_reducible repeat (first | refine blk_drewN ?_ _ | refine blk_drew ?_ | refine blk_alloc ?_ _)); exact BK724.out⟩, ⟨by (with_reducible repeat (first | refine blk_drewN ?_ _ | refine blk_drew ?_ | refine blk_alloc ?_ _)); exact BK725.out⟩, ⟨by repeat (first | (with_reducible first | exact HB.out | apply below_alloc | apply pw_below_drewN | apply below_drew1 | refine below_set ?_ GE724.out | refine below_set ?_ GE725.out) | exact HB.out)⟩⟩
  ·
   replace c6 := Bool.eq_false_iff.mpr c6
   subst c6
   have H1 : (impl_LeastPole.j0 k true l0_0 l0_1) = some (r1, r2, r3) := by rw [if_neg (show ¬ (false = true) by decide)] at H; exact H
   clear H
   have H := H1
   clear H1
   have H' := Aside0.mk H
   clear H
   have hnb13 := NB724_725.out
   have hnc13 := NB725_724.out
   have hcz14_0 : w4.cell? ⟨gb724, 0, none⟩ = some (.slice A0_0 l0_0.length c0_0) := (blk_cell BK724.out 0).trans rfl
   have hcz14_1 : w4.cell? ⟨gb724, 1, none⟩ = some (.slice A0_1 l0_1.length c0_1) := (blk_cell BK724.out 1).trans rfl
   have hfz14_0 := blk_frozen BK724.out 0
   have hfz14_1 := blk_frozen BK724.out 1
   go_wp2_with (first | ((with_reducible refine gate_callee (f := 45) rfl ?_); refine goesL_ (some 8) rfl rfl Try.func45 (by kernel_rfl) rfl #[.agg #[.slice A0_0 l0_0.length c0_0, .slice A0_1 l0_1.length c0_1]] rfl (by (try simp only [List.map_toArray, List.map_cons, List.map_nil]); first | done | rfl | (simp only [List.length_drop, List.length_take]; rfl)) ?_; (with_reducible refine (impl_isTurned.calls k _ _ l0_0 _ _ l0_1 false _ ?side1 ?side2 ?side3 ?side4 A5.out).mono ?_); (case side1 => repeat (first | exact (Kd.V_reads' HO0_0.out).2.2 | (with_reducible refine Kd.C_alloc ?_ _) | (with_reducible refine Kd.C_drewN ?_ _) | (with_reducible refine Kd.C_drew ?_))); (case side2 => exact (Kd.V_reads' HO0_0.out).2.1); (case side3 => repeat (first | exact (Kd.V_reads' HO0_1.out).2.2 | (with_reducible refine Kd.C_alloc ?_ _) | (with_reducible refine Kd.C_drewN ?_ _) | (with_reducible refine Kd.C_drew ?_))); (case side4 => exact (Kd.V_reads' HO0_1.out).2.1); rintro e w15 ⟨rfl, hb⟩; refine ⟨_, rfl, ?_⟩; have n0_ := Aside0.mk (Kd.V_below (by (with_reducible repeat (first | apply Kd.V_alloc | apply Kd.V_drewN | apply Kd.V_drew)); exact HO0_0.out) hb); have n1_ := Aside0.mk (Kd.V_below (by (with_reducible repeat (first | apply Kd.V_alloc | apply Kd.V_drewN | apply Kd.V_drew)); exact HO0_1.out) hb); have n2_ := Aside0.mk (blk_below (g := gb724) (o := .cells #[.slice A0_0 l0_0.length c0_0, .slice A0_1 l0_1.length c0_1] 36 (0, 0)) (by (with_reducible repeat (first | refine blk_drewN ?_ _ | refine blk_drew ?_ | refine blk_alloc ?_ _)); exact BK724.out) hb); have n3_ := Aside0.mk (blk_below (g := gb725) (o := .cells #[.int .i64 0, .slice none 0 0] 26 (0, 0)) (by (with_reducible repeat (first | refine blk_drewN ?_ _ | refine blk_drew ?_ | refine blk_alloc ?_ _)); exact BK725.out) hb); have n4_ := Aside0.mk (below_step (by repeat (first | (with_reducible first | exact HB.out | apply below_alloc | apply pw_below_drewN | apply below_drew1 | refine below_set ?_ GE724.out | refine below_set ?_ GE725.out) | exact HB.out)) hb); clear HO0_0; clear HO0_1; clear BK724; clear BK725; clear HB; have HO0_0 := n0_; have HO0_1 := n1_; have BK724 := n2_; have BK725 := n3_; have HB := n4_; clear n0_ n1_ n2_ n3_ n4_; (try clear hb); (try clear hb2); (try clear hk); (try clear hi)))
   go_meet
   case rel => exact ⟨_, (true), (by first | rfl | (simp; done) | (simp [*]; done)), H', ⟨by first | omega | exact Nat.le_refl _⟩, ⟨by (with_reducible repeat (first | apply Kd.V_alloc | apply Kd.V_drewN | apply Kd.V_drew)); exact Kd.V_mono HO0_0.out (fun _ hk => ⟨hk.1.1, ⟨hk.1.2, hk.2⟩⟩)⟩, ⟨by (with_reducible repeat (first | apply Kd.V_alloc | apply Kd.V_drewN | apply Kd.V_drew)); exact Kd.V_mono HO0_1.out (fun _ hk => ⟨hk.1.1, ⟨hk.1.2, hk.2⟩⟩)⟩, ⟨by (with_reducible repeat (first | refine blk_drewN ?_ _ | refine blk_drew ?_ | refine blk_alloc ?_ _)); exact BK724.out⟩, ⟨by (with_reducible repeat (first | refine blk_drewN ?_ _ | refine blk_drew ?_ | refine blk_alloc ?_ _)); exact BK725.out⟩, ⟨by repeat (first | (with_reducible first | exact HB.out | apply below_alloc | apply pw_below_drewN | apply below_drew1 | refine below_set ?_ GE724.out | refine below_set ?_ GE725.out) | exact HB.out)⟩⟩
 case rest =>
  clear HC2
  try clear c1
  try clear p2
  try clear c3
  try clear c4
  try clear c6
  try clear c8
  try clear c13
  try clear hcz11_0
  try clear hcz11_1
  try clear hcz14_0
  try clear hcz14_1
  try clear hcz9_0
  try clear hcz9_1
  try clear hfz11_0
  try clear hfz11_1
  try clear hfz14_0
  try clear hfz14_1
  try clear hfz9_0
  try clear hfz9_1
  obtain ⟨kq, x14_1, rfl, HA, HJ1, HO_725000, HO_725001, BK724, BK725, HB⟩ := hcut
  cases kq with
  | zero => exact absurd HA.out (by simp [impl_LeastPole.j0])
  | succ kj1 =>
   have H := HA.out
   clear HA
   simp only [impl_LeastPole.j0] at H
   by_cases c16 : x14_1 = true
   ·
    subst c16
    have H1 : (some (0, ([] : List Int), false)) = some (r1, r2, r3) := by rw [if_pos rfl] at H; exact H
    clear H
    have H := H1
    clear H1
    simp only [Option.some.injEq, Prod.mk.injEq] at H
    obtain ⟨rfl, rfl, rfl⟩ := H
    have hnb17 := NB725_724.out
    have hnc17 := NB724_725.out
    have hcz18_0 : wc.cell? ⟨gb725, 0, none⟩ = some (.int .i64 0) := (blk_cell BK725.out 0).trans rfl
    have hcz18_1 : wc.cell? ⟨gb725, 1, none⟩ = some (.slice none 0 0) := (blk_cell BK725.out 1).trans rfl
    have hfz18_0 := blk_frozen BK725.out 0
    have hfz18_1 := blk_frozen BK725.out 1
    go_wp2
    refine bodyPost_ret (results_ct rfl _ _ gb725 26 #[.int .i64 0, .slice none 0 0] (0, 0) _ rfl (by (with_reducible repeat (first | refine blk_drewN ?_ _ | refine blk_drew ?_ | refine blk_alloc ?_ _)); refine blk_put (cs := #[.int .i64 0, .slice none 0 0]) ?_ 1 _ rfl; (with_reducible repeat (first | refine blk_drewN ?_ _ | refine blk_drew ?_ | refine blk_alloc ?_ _)); refine blk_put (cs := #[.int .i64 0, .slice none 0 0]) ?_ 0 _ rfl; (with_reducible repeat (first | refine blk_drewN ?_ _ | refine blk_drew ?_ | refine blk_alloc ?_ _)); exact BK725.out) Try.underlying26 rfl (by kernel_rfl)) rfl ?_
    exact ⟨_, by first | rfl | (simp [errW_none, errW_some] <;> rfl) | (simp [*, errW_none, errW_some] <;> rfl), by first | exact Kd.R_nil _ _ _ _ _ | exact Kd.N_nil _ _ _ _ _ | exact Kd.V_nil _ _ _ _ _ | exact Kd.Q_nil _ _ _ _ _ | exact Kd.S_nil _ _ _ _ _, by repeat (first | (with_reducible first | exact HB.out | apply below_alloc | apply pw_below_drewN | apply below_drew1 | refine below_set ?_ GE724.out | refine below_set ?_ GE725.out) | exact HB.out)⟩
   ·
    replace c16 := Bool.eq_false_iff.mpr c16
    subst c16
    have H1 : ((impl_poleDescents.f l0_0 l0_1).bind fun t729 => (impl_LeastPole.l0 kj1 t729 l0_0 l0_1 (l0_0.length : Int) ([] : List Int))) = some (r1, r2, r3) := by rw [if_neg (show ¬ (false = true) by decide)] at H; exact H
    clear H
    have H := H1
    clear H1
    replace H := Option.bind_eq_some_iff.mp H
    obtain ⟨t729, A190, H⟩ := H
    replace H : (impl_LeastPole.l0 kj1 t729 l0_0 l0_1 (l0_0.length : Int) ([] : List Int)) = some (r1, r2, r3) := H
    have A19 := Aside0.mk A190
    clear A190
    have H' := Aside0.mk H
    clear H
    have hnb20 := NB724_725.out
    have hnc20 := NB725_724.out
    have hcz21_0 : wc.cell? ⟨gb724, 0, none⟩ = some (.slice A0_0 l0_0.length c0_0) := (blk_cell BK724.out 0).trans rfl
    have hcz21_1 : wc.cell? ⟨gb724, 1, none⟩ = some (.slice A0_1 l0_1.length c0_1) := (blk_cell BK724.out 1).trans rfl
    have hfz21_0 := blk_frozen BK724.out 0
    have hfz21_1 := blk_frozen BK724.out 1
    go_wp2_with (first | ((with_reducible refine gate_dst (N := 4) rfl ?_); refine box_event ?hg (N := 4) ?hd (cs := #[.int .i64 0, .slice none 0 0]) (t := 26) ?hr ?_; (case hd => rfl); (case hg => rfl); (case hr => first | (go_simp; done) | (go_simp; rfl)); intro gb728 hg w22 hbox hb; have n0_ := Aside0.mk (Kd.V_below (Kd.V_elderB (by (with_reducible repeat (first | apply Kd.V_alloc | apply Kd.V_drewN | apply Kd.V_drew)); exact HO_725000.out) gb728 (Nat.le_of_eq hg.symm)) hb); have n1_ := Aside0.mk (Kd.V_below (Kd.V_elderB (by (with_reducible repeat (first | apply Kd.V_alloc | apply Kd.V_drewN | apply Kd.V_drew)); exact HO_725001.out) gb728 (Nat.le_of_eq hg.symm)) hb); have n2_ := Aside0.mk (blk_below (g := gb724) (o := .cells #[.slice A0_0 l0_0.length c0_0, .slice A0_1 l0_1.length c0_1] 36 (0, 0)) (by (with_reducible repeat (first | refine blk_drewN ?_ _ | refine blk_drew ?_ | refine blk_alloc ?_ _)); exact BK724.out) hb); have n3_ := Aside0.mk (blk_below (g := gb725) (o := .cells #[.int .i64 0, .slice none 0 0] 26 (0, 0)) (by (with_reducible repeat (first | refine blk_drewN ?_ _ | refine blk_drew ?_ | refine blk_alloc ?_ _)); exact BK725.out) hb); have n4_ := Aside0.mk (below_step (by repeat (first | (with_reducible first | exact HB.out | apply below_alloc | apply pw_below_drewN | apply below_drew1 | refine below_set ?_ GE724.out | refine below_set ?_ GE725.out) | exact HB.out)) hb); have n5_ := Aside0.mk (hbox); have n6_ := Aside0.mk ((by rw [hg]; exact (below_size (by repeat (first | (with_reducible first | exact HB.out | apply below_alloc | apply pw_below_drewN | apply below_drew1 | refine below_set ?_ GE724.out | refine below_set ?_ GE725.out) | exact HB.out))) : w.heap.size ≤ gb728)); have n7_ := Aside0.mk ((by rw [hg]; exact (below_size (by repeat (first | (with_reducible first | exact HB.out | apply below_alloc | apply pw_below_drewN | apply below_drew1 | refine below_set ?_ GE724.out | refine below_set ?_ GE725.out) | exact HB.out))) : w.heap.size ≤ gb728)); have n8_ := Aside0.mk ((by rw [hg]; exact Nat.ne_of_lt (blk_lt (g := gb724) (o := .cells #[.slice A0_0 l0_0.length c0_0, .slice A0_1 l0_1.length c0_1] 36 (0, 0)) (by (with_reducible repeat (first | refine blk_drewN ?_ _ | refine blk_drew ?_ | refine blk_alloc ?_ _)); exact BK724.out)) : gb724 ≠ gb728)); have n9_ := Aside0.mk ((by rw [hg]; exact Nat.ne_of_gt (blk_lt (g := gb724) (o := .cells #[.slice A0_0 l0_0.length c0_0, .slice A0_1 l0_1.length c0_1] 36 (0, 0)) (by (with_reducible repeat (first | refine blk_drewN ?_ _ | refine blk_drew ?_ | refine blk_alloc ?_ _)); exact BK724.out)) : gb728 ≠ gb724)); have n10_ := Aside0.mk ((by rw [hg]; exact Nat.ne_of_lt (blk_lt (g := gb725) (o := .cells #[.int .i64 0, .slice none 0 0] 26 (0, 0)) (by (with_reducible repeat (first | refine blk_drewN ?_ _ | refine blk_drew ?_ | refine blk_alloc ?_ _)); exact BK725.out)) : gb725 ≠ gb728)); have n11_ := Aside0.mk ((by rw [hg]; exact Nat.ne_of_gt (blk_lt (g := gb725) (o := .cells #[.int .i64 0, .slice none 0 0] 26 (0, 0)) (by (with_reducible repeat (first | refine blk_drewN ?_ _ | refine blk_drew ?_ | refine blk_alloc ?_ _)); exact BK725.out)) : gb728 ≠ gb725)); clear HO_725000; clear HO_725001; clear BK724; clear BK725; clear HB; have HO_725000 := n0_; have HO_725001 := n1_; have BK724 := n2_; have BK725 := n3_; have HB := n4_; have BK728 := n5_; have GW728 := n6_; have GE728 := n7_; have NB724_728 := n8_; have NB728_724 := n9_; have NB725_728 := n10_; have NB728_725 := n11_; clear n0_ n1_ n2_ n3_ n4_ n5_ n6_ n7_ n8_ n9_ n10_ n11_; clear hb hbox hg; have hnb23 := NB728_724.out; have hnc23 := NB724_728.out; have hnb24 := NB728_725.out; have hnc24 := NB725_728.out; have hcz25_0 : w22.cell? ⟨gb728, 0, none⟩ = some (.int .i64 0) := (blk_cell BK728.out 0).trans rfl; have hcz25_1 : w22.cell? ⟨gb728, 1, none⟩ = some (.slice none 0 0) := (blk_cell BK728.out 1).trans rfl; have hfz25_0 := blk_frozen BK728.out 0; have hfz25_1 := blk_frozen BK728.out 1; have hcz26_0 : w22.cell? ⟨gb724, 0, none⟩ = some (.slice A0_0 l0_0.length c0_0) := (blk_cell BK724.out 0).trans rfl; have hcz26_1 : w22.cell? ⟨gb724, 1, none⟩ = some (.slice A0_1 l0_1.length c0_1) := (blk_cell BK724.out 1).trans rfl; have hfz26_0 := blk_frozen BK724.out 0; have hfz26_1 := blk_frozen BK724.out 1) | ((with_reducible refine gate_callee (f := 58) rfl ?_); refine goesL_ (some 21) rfl rfl Try.func58 (by kernel_rfl) rfl #[.agg #[.slice A0_0 l0_0.length c0_0, .slice A0_1 l0_1.length c0_1]] rfl (by (try simp only [List.map_toArray, List.map_cons, List.map_nil]); first | done | rfl | (simp only [List.length_drop, List.length_take]; rfl)) ?_; (with_reducible refine (impl_poleDescents.calls _ _ l0_0 _ _ l0_1 t729 _ ?side1 ?side2 ?side3 ?side4 A19.out).mono ?_); (case side1 => refine (Kd.V_reads' (e := 3) (base := w.heap.size) (ok := fun k_ => ((((P0_0_ k_ ∨ P0_1_ k_) ∨ w.heap.size ≤ k_) ∧ (k_ ≠ gb724 ∧ k_ ≠ gb725)) ∧ k_ ≠ gb728)) (n := l0_0.length) (c := c0_0) ?_).2.2; exact (by (with_reducible repeat (first | apply Kd.V_alloc | apply Kd.V_drewN | apply Kd.V_drew)); exact (Kd.V_mono (Kd.V_far (p := ⟨gb728, 1, none⟩) (Kd.V_far (p := ⟨gb728, 0, none⟩) (Kd.V_mono HO_725000.out (fun k_ hk => (⟨hk, hk.2⟩ : _ ∧ k_ ≠ gb728))) (fun _ hk => hk.2) (.int .i64 (l0_0.length : Int))) (fun _ hk => hk.2) (.slice none 0 0)) (fun _ h_ => h_.1)))); (case side2 => exact (Kd.V_reads' HO_725000.out).2.1); (case side3 => refine (Kd.V_reads' (e := 3) (base := w.heap.size) (ok := fun k_ => ((((P0_0_ k_ ∨ P0_1_ k_) ∨ w.heap.size ≤ k_) ∧ (k_ ≠ gb724 ∧ k_ ≠ gb725)) ∧ k_ ≠ gb728)) (n := l0_1.length) (c := c0_1) ?_).2.2; exact (by (with_reducible repeat (first | apply Kd.V_alloc | apply Kd.V_drewN | apply Kd.V_drew)); exact (Kd.V_mono (Kd.V_far (p := ⟨gb728, 1, none⟩) (Kd.V_far (p := ⟨gb728, 0, none⟩) (Kd.V_mono HO_725001.out (fun k_ hk => (⟨hk, hk.2⟩ : _ ∧ k_ ≠ gb728))) (fun _ hk => hk.2) (.int .i64 (l0_0.length : Int))) (fun _ hk => hk.2) (.slice none 0 0)) (fun _ h_ => h_.1)))); (case side4 => exact (Kd.V_reads' HO_725001.out).2.1); rintro e w27 ⟨v730, rfl, ho0, hb⟩; refine ⟨_, rfl, ?_⟩; have n0_ := Aside0.mk (Kd.V_elder' (by (with_reducible repeat (first | apply Kd.V_alloc | apply Kd.V_drewN | apply Kd.V_drew)); exact (Kd.V_mono (Kd.V_far (p := ⟨gb728, 1, none⟩) (Kd.V_far (p := ⟨gb728, 0, none⟩) (Kd.V_mono HO_725000.out (fun k_ hk => (⟨hk, hk.2⟩ : _ ∧ k_ ≠ gb728))) (fun _ hk => hk.2) (.int .i64 (l0_0.length : Int))) (fun _ hk => hk.2) (.slice none 0 0)) (fun _ h_ => h_.1))) (Kd.R_base ho0) hb); have n1_ := Aside0.mk (Kd.V_elder' (by (with_reducible repeat (first | apply Kd.V_alloc | apply Kd.V_drewN | apply Kd.V_drew)); exact (Kd.V_mono (Kd.V_far (p := ⟨gb728, 1, none⟩) (Kd.V_far (p := ⟨gb728, 0, none⟩) (Kd.V_mono HO_725001.out (fun k_ hk => (⟨hk, hk.2⟩ : _ ∧ k_ ≠ gb728))) (fun _ hk => hk.2) (.int .i64 (l0_0.length : Int))) (fun _ hk => hk.2) (.slice none 0 0)) (fun _ h_ => h_.1))) (Kd.R_base ho0) hb); have n2_ := Aside0.mk (Kd.R_lower (Kd.R_newM (M := fun k_ => (w.heap.size ≤ k_)) ho0 (below_size (by repeat (first | (with_reducible first | exact HB.out | apply below_alloc | apply pw_below_drewN | apply below_drew1 | refine below_set ?_ GE724.out | refine below_set ?_ GE725.out | refine below_set ?_ GE728.out) | exact HB.out))) (fun k_ h_ => h_)) (below_size (by repeat (first | (with_reducible first | exact HB.out | apply below_alloc | apply pw_below_drewN | apply below_drew1 | refine below_set ?_ GE724.out | refine below_set ?_ GE725.out | refine below_set ?_ GE728.out) | exact HB.out)))); have n3_ := Aside0.mk (blk_below (g := gb724) (o := .cells #[.slice A0_0 l0_0.length c0_0, .slice A0_1 l0_1.length c0_1] 36 (0, 0)) (by (with_reducible repeat (first | refine blk_drewN ?_ _ | refine blk_drew ?_ | refine blk_alloc ?_ _)); refine blk_far ?_ NB724_728.out _; (with_reducible repeat (first | refine blk_drewN ?_ _ | refine blk_drew ?_ | refine blk_alloc ?_ _)); refine blk_far ?_ NB724_728.out _; (with_reducible repeat (first | refine blk_drewN ?_ _ | refine blk_drew ?_ | refine blk_alloc ?_ _)); exact BK724.out) hb); have n4_ := Aside0.mk (blk_below (g := gb725) (o := .cells #[.int .i64 0, .slice none 0 0] 26 (0, 0)) (by (with_reducible repeat (first | refine blk_drewN ?_ _ | refine blk_drew ?_ | refine blk_alloc ?_ _)); refine blk_far ?_ NB725_728.out _; (with_reducible repeat (first | refine blk_drewN ?_ _ | refine blk_drew ?_ | refine blk_alloc ?_ _)); refine blk_far ?_ NB725_728.out _; (with_reducible repeat (first | refine blk_drewN ?_ _ | refine blk_drew ?_ | refine blk_alloc ?_ _)); exact BK725.out) hb); have n5_ := Aside0.mk (blk_below (g := gb728) (o := .cells #[.int .i64 (l0_0.length : Int), .slice none 0 0] 26 (0, 0)) (by (with_reducible repeat (first | refine blk_drewN ?_ _ | refine blk_drew ?_ | refine blk_alloc ?_ _)); refine blk_put (cs := #[.int .i64 (l0_0.length : Int), .slice none 0 0]) ?_ 1 _ rfl; (with_reducible repeat (first | refine blk_drewN ?_ _ | refine blk_drew ?_ | refine blk_alloc ?_ _)); refine blk_put (cs := #[.int .i64 0, .slice none 0 0]) ?_ 0 _ rfl; (with_reducible repeat (first | refine blk_drewN ?_ _ | refine blk_drew ?_ | refine blk_alloc ?_ _)); exact BK728.out) hb); have n6_ := Aside0.mk (below_step (by repeat (first | (with_reducible first | exact HB.out | apply below_alloc | apply pw_below_drewN | apply below_drew1 | refine below_set ?_ GE724.out | refine below_set ?_ GE725.out | refine below_set ?_ GE728.out) | exact HB.out)) hb); clear HO_725000; clear HO_725001; clear BK724; clear BK725; clear BK728; clear HB; have HO_725000 := n0_; have HO_725001 := n1_; have HO731 := n2_; have BK724 := n3_; have BK725 := n4_; have BK728 := n5_; have HB := n6_; clear n0_ n1_ n2_ n3_ n4_ n5_ n6_; (try clear hb); (try clear hb2); (try clear hk); (try clear hi); (try clear ho0)))
    go_loopg [5] kj1 (fun kq v5 w' => ∃ (x5_2 : List Int) (x725000_2 : List Int) (x725001_2 : List Int) (x729001_2 : List Int) (u725000 : Value) (u725001 : Value) (u729001 : Value), Aside0 (impl_LeastPole.l0 kq x5_2 x725000_2 x725001_2 (l0_0.length : Int) x729001_2 = some (r1, r2, r3)) ∧ Aside0 (kq ≤ kj1) ∧ Aside0 (Kd.R (Kd.int .i64) 3 w' w.heap.size (fun k_ => (w.heap.size ≤ k_) ∧ some k_ ≠ (u729001 : Value).ownBlock) v5 x5_2) ∧ Aside0 (Kd.V (Kd.int .i64) 3 w' w.heap.size (fun k_ => ((P0_0_ k_ ∨ P0_1_ k_) ∨ w.heap.size ≤ k_) ∧ some k_ ≠ (v5 : Value).ownBlock ∧ some k_ ≠ (u729001 : Value).ownBlock ∧ k_ ≠ gb724 ∧ k_ ≠ gb725 ∧ k_ ≠ gb728) u725000 x725000_2) ∧ Aside0 (Kd.V (Kd.int .i64) 3 w' w.heap.size (fun k_ => ((P0_0_ k_ ∨ P0_1_ k_) ∨ w.heap.size ≤ k_) ∧ some k_ ≠ (v5 : Value).ownBlock ∧ some k_ ≠ (u729001 : Value).ownBlock ∧ k_ ≠ gb724 ∧ k_ ≠ gb725 ∧ k_ ≠ gb728) u725001 x725001_2) ∧ Aside0 (Kd.R (Kd.int .i64) 3 w' w.heap.size (fun k_ => (w.heap.size ≤ k_) ∧ some k_ ≠ (v5 : Value).ownBlock) u729001 x729001_2) ∧ Aside0 (w'.heap[gb724]? = some (.cells #[u725000, u725001] 36 (0, 0))) ∧ Aside0 (w'.heap[gb725]? = some (.cells #[.int .i64 0, (.slice none 0 0)] 26 (0, 0))) ∧ Aside0 (w'.heap[gb728]? = some (.cells #[.int .i64 (l0_0.length : Int), u729001] 26 (0, 0))) ∧ Aside0 (Below w.heap.size w w'))
    case atStart => exact ⟨(t729), (l0_0), (l0_1), (([] : List Int)), (.slice A0_0 l0_0.length c0_0), (.slice A0_1 l0_1.length c0_1), (.slice none 0 0), H', ⟨Nat.le_refl _⟩, ⟨by (with_reducible repeat (first | apply Kd.R_alloc | apply Kd.R_drewN | apply Kd.R_drew)); exact Kd.R_mono HO731.out (fun _ hk => ⟨hk.1, (by simp [Value.ownBlock])⟩)⟩, ⟨by (with_reducible repeat (first | apply Kd.V_alloc | apply Kd.V_drewN | apply Kd.V_drew)); exact Kd.V_mono HO_725000.out (fun _ hk => ⟨hk.1.1.1, ⟨hk.2, ⟨(by simp [Value.ownBlock]), ⟨hk.1.1.2.1, ⟨hk.1.1.2.2, hk.1.2⟩⟩⟩⟩⟩)⟩, ⟨by (with_reducible repeat (first | apply Kd.V_alloc | apply Kd.V_drewN | apply Kd.V_drew)); exact Kd.V_mono HO_725001.out (fun _ hk => ⟨hk.1.1.1, ⟨hk.2, ⟨(by simp [Value.ownBlock]), ⟨hk.1.1.2.1, ⟨hk.1.1.2.2, hk.1.2⟩⟩⟩⟩⟩)⟩, ⟨by first | exact Kd.R_nil _ _ _ _ _ | exact Kd.N_nil _ _ _ _ _ | exact Kd.V_nil _ _ _ _ _ | exact Kd.Q_nil _ _ _ _ _ | exact Kd.S_nil _ _ _ _ _⟩, ⟨by (with_reducible repeat (first | refine blk_drewN ?_ _ | refine blk_drew ?_ | refine blk_alloc ?_ _)); exact BK724.out⟩, ⟨by (with_reducible repeat (first | refine blk_drewN ?_ _ | refine blk_drew ?_ | refine blk_alloc ?_ _)); exact BK725.out⟩, ⟨by (with_reducible repeat (first | refine blk_drewN ?_ _ | refine blk_drew ?_ | refine blk_alloc ?_ _)); exact BK728.out⟩, ⟨by repeat (first | (with_reducible first | exact HB.out | apply below_alloc | apply pw_below_drewN | apply below_drew1 | refine below_set ?_ GE724.out | refine below_set ?_ GE725.out | refine below_set ?_ GE728.out) | exact HB.out)⟩⟩
    case round =>
     clear H'
     try clear c1
     try clear c2
     try clear p2
     try clear c3
     try clear c4
     try clear c5
     try clear c6
     try clear c8
     try clear c13
     try clear c16
     try clear c17
     try clear c20
     try clear c23
     try clear c24
     try clear hcz11_0
     try clear hcz11_1
     try clear hcz14_0
     try clear hcz14_1
     try clear hcz18_0
     try clear hcz18_1
     try clear hcz21_0
     try clear hcz21_1
     try clear hcz25_0
     try clear hcz25_1
     try clear hcz26_0
     try clear hcz26_1
     try clear hcz9_0
     try clear hcz9_1
     try clear hfz11_0
     try clear hfz11_1
     try clear hfz14_0
     try clear hfz14_1
     try clear hfz18_0
     try clear hfz18_1
     try clear hfz21_0
     try clear hfz21_1
     try clear hfz25_0
     try clear hfz25_1
     try clear hfz26_0
     try clear hfz26_1
     try clear hfz9_0
     try clear hfz9_1
     try clear p2
     obtain ⟨x5_2, x725000_2, x725001_2, x729001_2, u725000, u725001, u729001, HA, HK2, HO_5, HO_725000, HO_725001, HO_729001, BK724, BK725, BK728, HB⟩ := hrel
     cases gk with
     | zero => exact absurd HA.out (by simp [impl_LeastPole.l0])
     | succ k2 =>
      have H := HA.out
      clear HA
      simp only [impl_LeastPole.l0] at H
      by_cases c28 : (x5_2.length : Int) > 0
      ·
       rw [if_pos c28] at H
       have c28b0 : decide (0 < (x5_2.length : Int)) = true := decide_eq_true c28
       have c28b1 : decide (0 < x5_2.length) = true := decide_eq_true (by omega)
       clear c28
       by_cases c29 : 1 ≤ (x5_2.length : Int)
       ·
        rw [if_pos c29] at H
        have c29b0 := eq_true c29
        have c29b1 : decide (1 ≤ (x5_2.length : Int)) = true := decide_eq_true c29
        clear c29
        obtain ⟨y732, hy732⟩ : ∃ y_ : List Int, y_ = (x5_2.take 1) := ⟨_, rfl⟩
        replace H : ((impl_poleResult.f k2 (l0_0.length : Int) y732).bind fun bt736 => (if 0 < (x5_2.length : Int) then (if x729001_2.length < 17592186044416 then ((impl_thenTurned.f k2 bt736.1 bt736.2 x725000_2 x725001_2).bind fun bt747 => ((impl_poleDescents.f bt747.1 bt747.2).bind fun t753 => (impl_LeastPole.l0 k2 t753 bt747.1 bt747.2 (l0_0.length : Int) (x729001_2 ++ [rd x5_2 0])))) else (none)) else (none))) = some (r1, r2, r3) := by first | (rw [hy732]; with_reducible exact H) | (have H2_ := (Option.bind_some _ _).symm.trans H; rw [hy732]; with_reducible exact H2_) | (have H2_ := (Option.bind_some _ _).symm.trans H; with_reducible exact H2_) | with_reducible exact H | (rw [hy732]; exact H) | exact H
        have Ny732 := Aside0.mk hy732
        clear hy732
        replace H := Option.bind_eq_some_iff.mp H
        obtain ⟨⟨t736, t739⟩, A300, H⟩ := H
        replace H : (if 0 < (x5_2.length : Int) then (if x729001_2.length < 17592186044416 then ((impl_thenTurned.f k2 t736 t739 x725000_2 x725001_2).bind fun bt747 => ((impl_poleDescents.f bt747.1 bt747.2).bind fun t753 => (impl_LeastPole.l0 k2 t753 bt747.1 bt747.2 (l0_0.length : Int) (x729001_2 ++ [rd x5_2 0])))) else (none)) else (none)) = some (r1, r2, r3) := H
        have A30 := Aside0.mk A300
        clear A300
        by_cases c31 : 0 < (x5_2.length : Int)
        ·
         rw [if_pos c31] at H
         have c31b0 : decide (0 < (x5_2.length : Int)) = true := decide_eq_true c31
         have c31b1 : decide (0 < x5_2.length) = true := decide_eq_true (by omega)
         clear c31
         by_cases c32 : x729001_2.length < 17592186044416
         ·
          rw [if_pos c32] at H
          have LMc32 := Aside0.mk c32
          clear c32
          obtain ⟨y744, hy744⟩ : ∃ y_ : List Int, y_ = (x729001_2 ++ [rd x5_2 0]) := ⟨_, rfl⟩
          replace H : ((impl_thenTurned.f k2 t736 t739 x725000_2 x725001_2).bind fun bt747 => ((impl_poleDescents.f bt747.1 bt747.2).bind fun t753 => (impl_LeastPole.l0 k2 t753 bt747.1 bt747.2 (l0_0.length : Int) y744))) = some (r1, r2, r3) := by first | (rw [hy744]; with_reducible exact H) | (have H2_ := (Option.bind_some _ _).symm.trans H; rw [hy744]; with_reducible exact H2_) | (have H2_ := (Option.bind_some _ _).symm.trans H; with_reducible exact H2_) | with_reducible exact H | (rw [hy744]; exact H) | exact H
          have Ny744 := Aside0.mk hy744
          clear hy744
          replace H := Option.bind_eq_some_iff.mp H
          obtain ⟨⟨t747, t750⟩, A330, H⟩ := H
          replace H : ((impl_poleDescents.f t747 t750).bind fun t753 => (impl_LeastPole.l0 k2 t753 t747 t750 (l0_0.length : Int) y744)) = some (r1, r2, r3) := H
          have A33 := Aside0.mk A330
          clear A330
          replace H := Option.bind_eq_some_iff.mp H
          obtain ⟨t753, A340, H⟩ := H
          replace H : (impl_LeastPole.l0 k2 t753 t747 t750 (l0_0.length : Int) y744) = some (r1, r2, r3) := H
          have A34 := Aside0.mk A340
          clear A340
          have H' := Aside0.mk H
          clear H
          obtain ⟨Ao35, co35, eo35⟩ := Kd.R_slice HO_5.out
          subst eo35
          try go_wp2
          have n0_ := Aside0.mk (Kd.R_drew HO_5.out)
          have n1_ := Aside0.mk (Kd.V_drew HO_725000.out)
          have n2_ := Aside0.mk (Kd.V_drew HO_725001.out)
          have n3_ := Aside0.mk (Kd.R_drew HO_729001.out)
          have n4_ := Aside0.mk (blk_drew BK724.out)
          have n5_ := Aside0.mk (blk_drew BK725.out)
          have n6_ := Aside0.mk (blk_drew BK728.out)
          have n7_ := Aside0.mk (below_drew1 HB.out)
          clear HO_5
          clear HO_725000
          clear HO_725001
          clear HO_729001
          clear BK724
          clear BK725
          clear BK728
          clear HB
          have HO_5 := n0_
          have HO_725000 := n1_
          have HO_725001 := n2_
          have HO_729001 := n3_
          have BK724 := n4_
          have BK725 := n5_
          have BK728 := n6_
          have HB := n7_
          clear n0_ n1_ n2_ n3_ n4_ n5_ n6_ n7_
          have q37 : (1 : Int) ≤ ((x5_2.length : Int) : Int) := of_decide_eq_true (by first | (with_reducible assumption) | assumption)
          obtain ⟨i037, hi037, _, hsz37, _⟩ := info_parts info3
          have hroom37 : x5_2.length ≤ co35 := (Kd.R_reads' HO_5.out).2.1
          have hC37 : Kd.C (Kd.int .i64) _ Ao35 x5_2.length x5_2 := (Kd.R_reads' HO_5.out).2.2
          have hcut37 := cut_to (P := Try.prog) 22 3 .i64 Try.underlying22 hi037 Ao35 x5_2.length co35 1 (by omega) q37 hroom37
          have hr37 := Kd.C_take (m := 1) hC37 (by omega)
          have hy37 : y732.length = (1 : Int).toNat := (by rw [Ny732.out, List.length_take]; omega)
          rw [← Ny732.out] at hr37
          rw [← hy37] at hcut37
          have HR735 := Aside0.mk hr37
          have HC735 := Aside0.mk (show y732.length ≤ co35 from by omega)
          clear hr37 hC37 hroom37 hi037 hsz37
          have KY37 := Aside0.mk hy37
          clear hy37
          have KL37 := Aside0.mk (show 1 ≤ x5_2.length from by omega)
          replace q37 := eq_true q37
          refine start_ (n := 8) (S := fun w' => w'.cell? ⟨gb728, 0, none⟩ = some (.int .i64 (l0_0.length : Int)) ∧ w'.cell? ⟨gb728, 1, none⟩ = some (u729001)) (ds := []) #[false, false, false, false, false, false, false, false] (by kernel_rfl) rfl rfl ⟨(blk_cell BK728.out 0).trans rfl, (blk_cell BK728.out 1).trans rfl⟩ (fun hHeld => ?_); refine with_tabW impl_LeastPole.tab7 impl_LeastPole.bits7 (fun HT_ HW_ => ?_)
          generalize wr.drew = w36 at HO_5 HO_725000 HO_725001 HO_729001 BK724 BK725 BK728 HB HR735 hHeld ⊢
          refine pure_ (i := 0) (N := some 27) (v := ?_) (a' := ?_) #[true, false, false, false, false, false, false, false] rfl rfl (any_of HT_.out (by kernel_rfl)) (fun _ _ _ h => h) (Or.inl ⟨by rfl, ?_⟩) ?_ ?_
          rotate_left
          ·
           intro w'
           go_simp
           with_reducible rfl
          rotate_left
          ·
           simp only [Act.put, List.setIfInBounds_toArray, List.set_cons_zero, List.set_cons_succ, i64_w, i32_w]
           rfl
          refine pure_ (i := 2) (N := some 29) (v := ?_) (a' := ?_) #[true, false, true, false, false, false, false, false] rfl rfl (any_of HT_.out (by kernel_rfl)) (fun _ _ _ h => h) (Or.inl ⟨by rfl, ?_⟩) ?_ ?_
          rotate_left
          ·
           intro w'
           go_simp
           with_reducible rfl
          rotate_left
          ·
           simp only [Act.put, List.setIfInBounds_toArray, List.set_cons_zero, List.set_cons_succ, i64_w, i32_w]
           rfl
          refine pure_ (i := 3) (N := some 30) (v := ?_) (a' := ?_) #[true, false, true, true, false, false, false, false] rfl rfl (any_of HT_.out (by kernel_rfl)) (fun _ _ _ h => h) (Or.inl ⟨by rfl, ?_⟩) ?_ ?_
          rotate_left
          ·
           intro w'
           go_simp
           with_reducible rfl
          rotate_left
          ·
           simp only [Act.put, List.setIfInBounds_toArray, List.set_cons_zero, List.set_cons_succ, i64_w, i32_w]
           rfl
          refine take_ (i := 1) (N := some 28) (v := ?_) (a' := ?_) #[true, true, true, true, false, false, false, false] rfl rfl (take_ofW HT_.out HW_.out (by kernel_rfl)) (fun _ _ _ h => h) (Or.inl ⟨by rfl, ?_⟩) hHeld ?_ ?_
          rotate_left
          ·
           rintro w' ⟨s0, s1⟩
           go_simp
           with_reducible rfl
          rotate_left
          ·
           simp only [Act.put, List.setIfInBounds_toArray, List.set_cons_zero, List.set_cons_succ, i64_w, i32_w]
           rfl
          refine pure_ (i := 4) (N := some 31) (v := ?_) (a' := ?_) #[true, true, true, true, true, false, false, false] rfl rfl (any_of HT_.out (by kernel_rfl)) (fun _ _ _ h => h) (Or.inl ⟨by rfl, ?_⟩) ?_ ?_
          rotate_left
          ·
           intro w'
           go_simp
           with_reducible rfl
          rotate_left
          ·
           simp only [Act.put, List.setIfInBounds_toArray, List.set_cons_zero, List.set_cons_succ, i64_w, i32_w]
           rfl
          refine join_ (σ := Value × Value × Nat) 1 #[true, true, true, true, true, true, true, false] (fun s_ => [(32, .agg #[s_.1, s_.2.1]), (6, .pointer (some ⟨s_.2.2, 0, none⟩))]) (fun s_ w' => (w'.cell? ⟨gb728, 0, none⟩ = some (.int .i64 (l0_0.length : Int)) ∧ w'.cell? ⟨gb728, 1, none⟩ = some (u729001)) ∧ (Kd.R (Kd.int .i64) 3 w' w.heap.size (fun k_ => (w.heap.size ≤ k_) ∧ some k_ ≠ (s_.2.1 : Value).ownBlock ∧ some k_ ≠ (.slice Ao35 x5_2.length co35 : Value).ownBlock ∧ some k_ ≠ (u729001 : Value).ownBlock) s_.1 t736) ∧ (Kd.R (Kd.int .i64) 3 w' w.heap.size (fun k_ => (w.heap.size ≤ k_) ∧ some k_ ≠ (s_.1 : Value).ownBlock ∧ some k_ ≠ (.slice Ao35 x5_2.length co35 : Value).ownBlock ∧ some k_ ≠ (u729001 : Value).ownBlock) s_.2.1 t739) ∧ (Kd.R (Kd.int .i64) 3 w' w.heap.size (fun k_ => (w.heap.size ≤ k_) ∧ some k_ ≠ (s_.1 : Value).ownBlock ∧ some k_ ≠ (s_.2.1 : Value).ownBlock ∧ some k_ ≠ (u729001 : Value).ownBlock) (.slice Ao35 x5_2.length co35) x5_2) ∧ (Kd.V (Kd.int .i64) 3 w' w.heap.size (fun k_ => ((P0_0_ k_ ∨ P0_1_ k_) ∨ w.heap.size ≤ k_) ∧ some k_ ≠ (s_.1 : Value).ownBlock ∧ some k_ ≠ (s_.2.1 : Value).ownBlock ∧ some k_ ≠ (.slice Ao35 x5_2.length co35 : Value).ownBlock ∧ some k_ ≠ (u729001 : Value).ownBlock ∧ k_ ≠ gb724 ∧ k_ ≠ gb725 ∧ k_ ≠ gb728 ∧ k_ ≠ s_.2.2) u725000 x725000_2) ∧ (Kd.V (Kd.int .i64) 3 w' w.heap.size (fun k_ => ((P0_0_ k_ ∨ P0_1_ k_) ∨ w.heap.size ≤ k_) ∧ some k_ ≠ (s_.1 : Value).ownBlock ∧ some k_ ≠ (s_.2.1 : Value).ownBlock ∧ some k_ ≠ (.slice Ao35 x5_2.length co35 : Value).ownBlock ∧ some k_ ≠ (u729001 : Value).ownBlock ∧ k_ ≠ gb724 ∧ k_ ≠ gb725 ∧ k_ ≠ gb728 ∧ k_ ≠ s_.2.2) u725001 x725001_2) ∧ (Kd.R (Kd.int .i64) 3 w' w.heap.size (fun k_ => (w.heap.size ≤ k_) ∧ some k_ ≠ (s_.1 : Value).ownBlock ∧ some k_ ≠ (s_.2.1 : Value).ownBlock ∧ some k_ ≠ (.slice Ao35 x5_2.length co35 : Value).ownBlock) u729001 x729001_2) ∧ (w'.heap[gb724]? = some (.cells #[u725000, u725001] 36 (0, 0))) ∧ (w'.heap[gb725]? = some (.cells #[.int .i64 0, .slice none 0 0] 26 (0, 0))) ∧ (w'.heap[gb728]? = some (.cells #[.int .i64 (l0_0.length : Int), u729001] 26 (0, 0))) ∧ (w'.heap[s_.2.2]? = some (.cells #[.slice none 0 0, .slice none 0 0] 36 (0, 0))) ∧ (w.heap.size ≤ s_.2.2) ∧ (w.heap.size ≤ s_.2.2) ∧ (gb724 ≠ s_.2.2) ∧ (s_.2.2 ≠ gb724) ∧ (gb725 ≠ s_.2.2) ∧ (s_.2.2 ≠ gb725) ∧ (gb728 ≠ s_.2.2) ∧ (s_.2.2 ≠ gb728) ∧ (Below w.heap.size w w')) ?_ ?_
          rotate_left
          ·
           intro hCont
           refine two_ (i := 5) (j := 6) (Ni := some 32) (Nj := some 6) #[true, true, true, true, true, true, false, false] #[true, true, true, true, true, false, true, false] rfl rfl rfl rfl (two_of HT_.out (by kernel_rfl)) (by decide) (by decide) (fun K hK => ?_) (fun K hK => ?_)
           ·
            skip
            refine goes_ Try.func55 (by kernel_rfl) rfl #[.agg #[.int .i64 (l0_0.length : Int), .slice Ao35 y732.length co35]] (by rfl) rfl rfl (by (try simp only [List.map_toArray, List.map_cons, List.map_nil]); first | done | rfl | (simp only [List.length_drop, List.length_take]; rfl)) ?_
            with_reducible refine (impl_poleResult.calls k2 (l0_0.length : Int) _ _ y732 t736 t739 _ ?side1 ?side2 A30.out).mono ?_
            (case side1 => repeat (first | exact (by repeat (first | (with_reducible exact HR735.out) | (with_reducible refine Kd.C_alloc ?_ _) | (with_reducible refine Kd.C_drewN ?_ _) | (with_reducible refine Kd.C_drew ?_) | exact HR735.out)) | (with_reducible refine Kd.C_alloc ?_ _) | (with_reducible refine Kd.C_drewN ?_ _) | (with_reducible refine Kd.C_drew ?_)))
            (case side2 => exact HC735.out)
            rintro e w38 ⟨v737, v740, rfl, ho0, ho1, hb⟩
            refine ⟨_, rfl, ?_⟩
            have n0_ := Aside0.mk (Kd.R_mono (Kd.R_told (Kd.R_told (Kd.R_old (by (with_reducible repeat (first | apply Kd.R_alloc | apply Kd.R_drewN | apply Kd.R_drew)); exact HO_5.out) hb) (Kd.R_base ho0)) (Kd.R_base ho1)) (fun _ h_ => h_.1))
            have n1_ := Aside0.mk (Kd.V_mono (Kd.V_told (Kd.V_told (Kd.V_old (by (with_reducible repeat (first | apply Kd.V_alloc | apply Kd.V_drewN | apply Kd.V_drew)); exact HO_725000.out) hb) (Kd.R_base ho0)) (Kd.R_base ho1)) (fun _ h_ => h_.1))
            have n2_ := Aside0.mk (Kd.V_mono (Kd.V_told (Kd.V_told (Kd.V_old (by (with_reducible repeat (first | apply Kd.V_alloc | apply Kd.V_drewN | apply Kd.V_drew)); exact HO_725001.out) hb) (Kd.R_base ho0)) (Kd.R_base ho1)) (fun _ h_ => h_.1))
            have n3_ := Aside0.mk (Kd.R_mono (Kd.R_told (Kd.R_told (Kd.R_old (by (with_reducible repeat (first | apply Kd.R_alloc | apply Kd.R_drewN | apply Kd.R_drew)); exact HO_729001.out) hb) (Kd.R_base ho0)) (Kd.R_base ho1)) (fun _ h_ => h_.1))
            have n4_ := Aside0.mk (Kd.R_lower (Kd.R_new' (Kd.R_new' (Kd.R_newM (M := fun k_ => (w.heap.size ≤ k_)) ho0 (below_size (by repeat (first | (with_reducible first | exact HB.out | apply below_alloc | apply pw_below_drewN | apply below_drew1 | refine below_set ?_ GE724.out | refine below_set ?_ GE725.out | refine below_set ?_ GE728.out) | exact HB.out))) (fun k_ h_ => h_)) (Kd.R_lt (by (with_reducible repeat (first | apply Kd.R_alloc | apply Kd.R_drewN | apply Kd.R_drew)); exact HO_5.out))) (Kd.R_lt (by (with_reducible repeat (first | apply Kd.R_alloc | apply Kd.R_drewN | apply Kd.R_drew)); exact HO_729001.out))) (below_size (by repeat (first | (with_reducible first | exact HB.out | apply below_alloc | apply pw_below_drewN | apply below_drew1 | refine below_set ?_ GE724.out | refine below_set ?_ GE725.out | refine below_set ?_ GE728.out) | exact HB.out))))
            have n5_ := Aside0.mk (Kd.R_lower (Kd.R_new' (Kd.R_new' (Kd.R_newM (M := fun k_ => (w.heap.size ≤ k_)) ho1 (below_size (by repeat (first | (with_reducible first | exact HB.out | apply below_alloc | apply pw_below_drewN | apply below_drew1 | refine below_set ?_ GE724.out | refine below_set ?_ GE725.out | refine below_set ?_ GE728.out) | exact HB.out))) (fun k_ h_ => h_)) (Kd.R_lt (by (with_reducible repeat (first | apply Kd.R_alloc | apply Kd.R_drewN | apply Kd.R_drew)); exact HO_5.out))) (Kd.R_lt (by (with_reducible repeat (first | apply Kd.R_alloc | apply Kd.R_drewN | apply Kd.R_drew)); exact HO_729001.out))) (below_size (by repeat (first | (with_reducible first | exact HB.out | apply below_alloc | apply pw_below_drewN | apply below_drew1 | refine below_set ?_ GE724.out | refine below_set ?_ GE725.out | refine below_set ?_ GE728.out) | exact HB.out))))
            have n6_ := Aside0.mk (blk_below (g := gb724) (o := .cells #[u725000, u725001] 36 (0, 0)) (by (with_reducible repeat (first | refine blk_drewN ?_ _ | refine blk_drew ?_ | refine blk_alloc ?_ _)); exact BK724.out) hb)
            have n7_ := Aside0.mk (blk_below (g := gb725) (o := .cells #[.int .i64 0, .slice none 0 0] 26 (0, 0)) (by (with_reducible repeat (first | refine blk_drewN ?_ _ | refine blk_drew ?_ | refine blk_alloc ?_ _)); exact BK725.out) hb)
            have n8_ := Aside0.mk (blk_below (g := gb728) (o := .cells #[.int .i64 (l0_0.length : Int), u729001] 26 (0, 0)) (by (with_reducible repeat (first | refine blk_drewN ?_ _ | refine blk_drew ?_ | refine blk_alloc ?_ _)); exact BK728.out) hb)
            have n9_ := Aside0.mk (Kd.C_below (by repeat (first | (with_reducible exact HR735.out) | (with_reducible refine Kd.C_alloc ?_ _) | (with_reducible refine Kd.C_drewN ?_ _) | (with_reducible refine Kd.C_drew ?_) | exact HR735.out)) hb)
            have n10_ := Aside0.mk (below_step (by repeat (first | (with_reducible first | exact HB.out | apply below_alloc | apply pw_below_drewN | apply below_drew1 | refine below_set ?_ GE724.out | refine below_set ?_ GE725.out | refine below_set ?_ GE728.out) | exact HB.out)) hb)
            clear HO_5
            clear HO_725000
            clear HO_725001
            clear HO_729001
            clear BK724
            clear BK725
            clear BK728
            clear HR735
            clear HB
            have HO_5 := n0_
            have HO_725000 := n1_
            have HO_725001 := n2_
            have HO_729001 := n3_
            have HO738 := n4_
            have HO741 := n5_
            have BK724 := n6_
            have BK725 := n7_
            have BK728 := n8_
            have HR735 := n9_
            have HB := n10_
            clear n0_ n1_ n2_ n3_ n4_ n5_ n6_ n7_ n8_ n9_ n10_
            (try clear hb)
            (try clear hb2)
            (try clear hk)
            (try clear hi)
            (try clear ho0)
            (try clear ho1)
            refine hK.out _ _ ⟨(blk_cell BK728.out 0).trans rfl, (blk_cell BK728.out 1).trans rfl⟩ (fun hHeld => ?_)
            clear hK K
            refine norm_ (a' := ?_) ?_ ?_
            rotate_left
            ·
             show Act.put _ (some 32) _ = _
             simp only [Act.put, List.setIfInBounds_toArray, List.set_cons_zero, List.set_cons_succ, i64_w, i32_w]
             rfl
            refine one_ (i := 6) (N := some 6) #[true, true, true, true, true, true, true, false] rfl rfl (one_of HT_.out (by kernel_rfl)) (by decide) (fun K hK => ?_)
            refine box_step ?hg (N := 6) ?hd (cs := #[.slice none 0 0, .slice none 0 0]) (t := 36) ?hr ?_; (case hd => rfl); (case hg => rfl); (case hr => first | (go_simp; done) | (go_simp; rfl))
            intro gb742 hg w39 hbox hb
            have n0_ := Aside0.mk (Kd.R_below (by (with_reducible repeat (first | apply Kd.R_alloc | apply Kd.R_drewN | apply Kd.R_drew)); exact HO_5.out) hb)
            have n1_ := Aside0.mk (Kd.V_below (Kd.V_elderB (by (with_reducible repeat (first | apply Kd.V_alloc | apply Kd.V_drewN | apply Kd.V_drew)); exact HO_725000.out) gb742 (Nat.le_of_eq hg.symm)) hb)
            have n2_ := Aside0.mk (Kd.V_below (Kd.V_elderB (by (with_reducible repeat (first | apply Kd.V_alloc | apply Kd.V_drewN | apply Kd.V_drew)); exact HO_725001.out) gb742 (Nat.le_of_eq hg.symm)) hb)
            have n3_ := Aside0.mk (Kd.R_below (by (with_reducible repeat (first | apply Kd.R_alloc | apply Kd.R_drewN | apply Kd.R_drew)); exact HO_729001.out) hb)
            have n4_ := Aside0.mk (Kd.R_below (by (with_reducible repeat (first | apply Kd.R_alloc | apply Kd.R_drewN | apply Kd.R_drew)); exact HO738.out) hb)
            have n5_ := Aside0.mk (Kd.R_below (by (with_reducible repeat (first | apply Kd.R_alloc | apply Kd.R_drewN | apply Kd.R_drew)); exact HO741.out) hb)
            have n6_ := Aside0.mk (blk_below (g := gb724) (o := .cells #[u725000, u725001] 36 (0, 0)) (by (with_reducible repeat (first | refine blk_drewN ?_ _ | refine blk_drew ?_ | refine blk_alloc ?_ _)); exact BK724.out) hb)
            have n7_ := Aside0.mk (blk_below (g := gb725) (o := .cells #[.int .i64 0, .slice none 0 0] 26 (0, 0)) (by (with_reducible repeat (first | refine blk_drewN ?_ _ | refine blk_drew ?_ | refine blk_alloc ?_ _)); exact BK725.out) hb)
            have n8_ := Aside0.mk (blk_below (g := gb728) (o := .cells #[.int .i64 (l0_0.length : Int), u729001] 26 (0, 0)) (by (with_reducible repeat (first | refine blk_drewN ?_ _ | refine blk_drew ?_ | refine blk_alloc ?_ _)); exact BK728.out) hb)
            have n9_ := Aside0.mk (Kd.C_below (by repeat (first | (with_reducible exact HR735.out) | (with_reducible refine Kd.C_alloc ?_ _) | (with_reducible refine Kd.C_drewN ?_ _) | (with_reducible refine Kd.C_drew ?_) | exact HR735.out)) hb)
            have n10_ := Aside0.mk (below_step (by repeat (first | (with_reducible first | exact HB.out | apply below_alloc | apply pw_below_drewN | apply below_drew1 | refine below_set ?_ GE724.out | refine below_set ?_ GE725.out | refine below_set ?_ GE728.out) | exact HB.out)) hb)
            have n11_ := Aside0.mk (hbox)
            have n12_ := Aside0.mk ((by rw [hg]; exact (below_size (by repeat (first | (with_reducible first | exact HB.out | apply below_alloc | apply pw_below_drewN | apply below_drew1 | refine below_set ?_ GE724.out | refine below_set ?_ GE725.out | refine below_set ?_ GE728.out) | exact HB.out))) : w.heap.size ≤ gb742))
            have n13_ := Aside0.mk ((by rw [hg]; exact (below_size (by repeat (first | (with_reducible first | exact HB.out | apply below_alloc | apply pw_below_drewN | apply below_drew1 | refine below_set ?_ GE724.out | refine below_set ?_ GE725.out | refine below_set ?_ GE728.out) | exact HB.out))) : w.heap.size ≤ gb742))
            have n14_ := Aside0.mk ((by rw [hg]; exact Nat.ne_of_lt (blk_lt (g := gb724) (o := .cells #[u725000, u725001] 36 (0, 0)) (by (with_reducible repeat (first | refine blk_drewN ?_ _ | refine blk_drew ?_ | refine blk_alloc ?_ _)); exact BK724.out)) : gb724 ≠ gb742))
            have n15_ := Aside0.mk ((by rw [hg]; exact Nat.ne_of_gt (blk_lt (g := gb724) (o := .cells #[u725000, u725001] 36 (0, 0)) (by (with_reducible repeat (first | refine blk_drewN ?_ _ | refine blk_drew ?_ | refine blk_alloc ?_ _)); exact BK724.out)) : gb742 ≠ gb724))
            have n16_ := Aside0.mk ((by rw [hg]; exact Nat.ne_of_lt (blk_lt (g := gb725) (o := .cells #[.int .i64 0, .slice none 0 0] 26 (0, 0)) (by (with_reducible repeat (first | refine blk_drewN ?_ _ | refine blk_drew ?_ | refine blk_alloc ?_ _)); exact BK725.out)) : gb725 ≠ gb742))
            have n17_ := Aside0.mk ((by rw [hg]; exact Nat.ne_of_gt (blk_lt (g := gb725) (o := .cells #[.int .i64 0, .slice none 0 0] 26 (0, 0)) (by (with_reducible repeat (first | refine blk_drewN ?_ _ | refine blk_drew ?_ | refine blk_alloc ?_ _)); exact BK725.out)) : gb742 ≠ gb725))
            have n18_ := Aside0.mk ((by rw [hg]; exact Nat.ne_of_lt (blk_lt (g := gb728) (o := .cells #[.int .i64 (l0_0.length : Int), u729001] 26 (0, 0)) (by (with_reducible repeat (first | refine blk_drewN ?_ _ | refine blk_drew ?_ | refine blk_alloc ?_ _)); exact BK728.out)) : gb728 ≠ gb742))
            have n19_ := Aside0.mk ((by rw [hg]; exact Nat.ne_of_gt (blk_lt (g := gb728) (o := .cells #[.int .i64 (l0_0.length : Int), u729001] 26 (0, 0)) (by (with_reducible repeat (first | refine blk_drewN ?_ _ | refine blk_drew ?_ | refine blk_alloc ?_ _)); exact BK728.out)) : gb742 ≠ gb728))
            clear HO_5
            clear HO_725000
            clear HO_725001
            clear HO_729001
            clear HO738
            clear HO741
            clear BK724
            clear BK725
            clear BK728
            clear HR735
            clear HB
            have HO_5 := n0_
            have HO_725000 := n1_
            have HO_725001 := n2_
            have HO_729001 := n3_
            have HO738 := n4_
            have HO741 := n5_
            have BK724 := n6_
            have BK725 := n7_
            have BK728 := n8_
            have HR735 := n9_
            have HB := n10_
            have BK742 := n11_
            have GW742 := n12_
            have GE742 := n13_
            have NB724_742 := n14_
            have NB742_724 := n15_
            have NB725_742 := n16_
            have NB742_725 := n17_
            have NB728_742 := n18_
            have NB742_728 := n19_
            clear n0_ n1_ n2_ n3_ n4_ n5_ n6_ n7_ n8_ n9_ n10_ n11_ n12_ n13_ n14_ n15_ n16_ n17_ n18_ n19_
            clear hb hbox hg
            refine hK.out _ _ ⟨(blk_cell BK728.out 0).trans rfl, (blk_cell BK728.out 1).trans rfl⟩ (fun hHeld => ?_)
            clear hK K
            refine norm_ (a' := ?_) ?_ ?_
            rotate_left
            ·
             show Act.put _ (some 6) _ = _
             simp only [Act.put, List.setIfInBounds_toArray, List.set_cons_zero, List.set_cons_succ, i64_w, i32_w]
             rfl
            exact norm_ (by simp only [putAll, Act.put, List.setIfInBounds_toArray, List.set_cons_zero, List.set_cons_succ]) (hCont (v737, v740, gb742) _ ⟨hHeld, (by (with_reducible repeat (first | apply Kd.R_alloc | apply Kd.R_drewN | apply Kd.R_drew)); exact Kd.R_mono HO738.out (fun _ hk => ⟨hk.1.1.1, ⟨hk.1.1.2, ⟨hk.1.2, hk.2⟩⟩⟩)), (by (with_reducible repeat (first | apply Kd.R_alloc | apply Kd.R_drewN | apply Kd.R_drew)); exact Kd.R_mono HO741.out (fun _ hk => ⟨hk.1.1.1, ⟨hk.1.1.2, ⟨hk.1.2, hk.2⟩⟩⟩)), (by (with_reducible repeat (first | apply Kd.R_alloc | apply Kd.R_drewN | apply Kd.R_drew)); exact Kd.R_mono HO_5.out (fun _ hk => ⟨hk.1.1.1, ⟨hk.1.2, ⟨hk.2, hk.1.1.2⟩⟩⟩)), (by (with_reducible repeat (first | apply Kd.V_alloc | apply Kd.V_drewN | apply Kd.V_drew)); exact Kd.V_mono HO_725000.out (fun _ hk => ⟨hk.1.1.1.1, ⟨hk.1.1.2, ⟨hk.1.2, ⟨hk.1.1.1.2.1, ⟨hk.1.1.1.2.2.1, ⟨hk.1.1.1.2.2.2.1, ⟨hk.1.1.1.2.2.2.2.1, ⟨hk.1.1.1.2.2.2.2.2, hk.2⟩⟩⟩⟩⟩⟩⟩⟩)), (by (with_reducible repeat (first | apply Kd.V_alloc | apply Kd.V_drewN | apply Kd.V_drew)); exact Kd.V_mono HO_725001.out (fun _ hk => ⟨hk.1.1.1.1, ⟨hk.1.1.2, ⟨hk.1.2, ⟨hk.1.1.1.2.1, ⟨hk.1.1.1.2.2.1, ⟨hk.1.1.1.2.2.2.1, ⟨hk.1.1.1.2.2.2.2.1, ⟨hk.1.1.1.2.2.2.2.2, hk.2⟩⟩⟩⟩⟩⟩⟩⟩)), (by (with_reducible repeat (first | apply Kd.R_alloc | apply Kd.R_drewN | apply Kd.R_drew)); exact Kd.R_mono HO_729001.out (fun _ hk => ⟨hk.1.1.1, ⟨hk.1.2, ⟨hk.2, hk.1.1.2⟩⟩⟩)), (by (with_reducible repeat (first | refine blk_drewN ?_ _ | refine blk_drew ?_ | refine blk_alloc ?_ _)); exact BK724.out), (by (with_reducible repeat (first | refine blk_drewN ?_ _ | refine blk_drew ?_ | refine blk_alloc ?_ _)); exact BK725.out), (by (with_reducible repeat (first | refine blk_drewN ?_ _ | refine blk_drew ?_ | refine blk_alloc ?_ _)); exact BK728.out), (by (with_reducible repeat (first | refine blk_drewN ?_ _ | refine blk_drew ?_ | refine blk_alloc ?_ _)); exact BK742.out), GW742.out, GE742.out, NB724_742.out, NB742_724.out, NB725_742.out, NB742_725.out, NB728_742.out, NB742_728.out, (by repeat (first | (with_reducible first | exact HB.out | apply below_alloc | apply pw_below_drewN | apply below_drew1 | refine below_set ?_ GE724.out | refine below_set ?_ GE725.out | refine below_set ?_ GE728.out | refine below_set ?_ GE742.out) | exact HB.out))⟩)
           ·
            skip
            refine box_step ?hg (N := 6) ?hd (cs := #[.slice none 0 0, .slice none 0 0]) (t := 36) ?hr ?_; (case hd => rfl); (case hg => rfl); (case hr => first | (go_simp; done) | (go_simp; rfl))
            intro gb742 hg w38 hbox hb
            have n0_ := Aside0.mk (Kd.R_below (by (with_reducible repeat (first | apply Kd.R_alloc | apply Kd.R_drewN | apply Kd.R_drew)); exact HO_5.out) hb)
            have n1_ := Aside0.mk (Kd.V_below (Kd.V_elderB (by (with_reducible repeat (first | apply Kd.V_alloc | apply Kd.V_drewN | apply Kd.V_drew)); exact HO_725000.out) gb742 (Nat.le_of_eq hg.symm)) hb)
            have n2_ := Aside0.mk (Kd.V_below (Kd.V_elderB (by (with_reducible repeat (first | apply Kd.V_alloc | apply Kd.V_drewN | apply Kd.V_drew)); exact HO_725001.out) gb742 (Nat.le_of_eq hg.symm)) hb)
            have n3_ := Aside0.mk (Kd.R_below (by (with_reducible repeat (first | apply Kd.R_alloc | apply Kd.R_drewN | apply Kd.R_drew)); exact HO_729001.out) hb)
            have n4_ := Aside0.mk (blk_below (g := gb724) (o := .cells #[u725000, u725001] 36 (0, 0)) (by (with_reducible repeat (first | refine blk_drewN ?_ _ | refine blk_drew ?_ | refine blk_alloc ?_ _)); exact BK724.out) hb)
            have n5_ := Aside0.mk (blk_below (g := gb725) (o := .cells #[.int .i64 0, .slice none 0 0] 26 (0, 0)) (by (with_reducible repeat (first | refine blk_drewN ?_ _ | refine blk_drew ?_ | refine blk_alloc ?_ _)); exact BK725.out) hb)
            have n6_ := Aside0.mk (blk_below (g := gb728) (o := .cells #[.int .i64 (l0_0.length : Int), u729001] 26 (0, 0)) (by (with_reducible repeat (first | refine blk_drewN ?_ _ | refine blk_drew ?_ | refine blk_alloc ?_ _)); exact BK728.out) hb)
            have n7_ := Aside0.mk (Kd.C_below (by repeat (first | (with_reducible exact HR735.out) | (with_reducible refine Kd.C_alloc ?_ _) | (with_reducible refine Kd.C_drewN ?_ _) | (with_reducible refine Kd.C_drew ?_) | exact HR735.out)) hb)
            have n8_ := Aside0.mk (below_step (by repeat (first | (with_reducible first | exact HB.out | apply below_alloc | apply pw_below_drewN | apply below_drew1 | refine below_set ?_ GE724.out | refine below_set ?_ GE725.out | refine below_set ?_ GE728.out) | exact HB.out)) hb)
            have n9_ := Aside0.mk (hbox)
            have n10_ := Aside0.mk ((by rw [hg]; exact (below_size (by repeat (first | (with_reducible first | exact HB.out | apply below_alloc | apply pw_below_drewN | apply below_drew1 | refine below_set ?_ GE724.out | refine below_set ?_ GE725.out | refine below_set ?_ GE728.out) | exact HB.out))) : w.heap.size ≤ gb742))
            have n11_ := Aside0.mk ((by rw [hg]; exact (below_size (by repeat (first | (with_reducible first | exact HB.out | apply below_alloc | apply pw_below_drewN | apply below_drew1 | refine below_set ?_ GE724.out | refine below_set ?_ GE725.out | refine below_set ?_ GE728.out) | exact HB.out))) : w.heap.size ≤ gb742))
            have n12_ := Aside0.mk ((by rw [hg]; exact Nat.ne_of_lt (blk_lt (g := gb724) (o := .cells #[u725000, u725001] 36 (0, 0)) (by (with_reducible repeat (first | refine blk_drewN ?_ _ | refine blk_drew ?_ | refine blk_alloc ?_ _)); exact BK724.out)) : gb724 ≠ gb742))
            have n13_ := Aside0.mk ((by rw [hg]; exact Nat.ne_of_gt (blk_lt (g := gb724) (o := .cells #[u725000, u725001] 36 (0, 0)) (by (with_reducible repeat (first | refine blk_drewN ?_ _ | refine blk_drew ?_ | refine blk_alloc ?_ _)); exact BK724.out)) : gb742 ≠ gb724))
            have n14_ := Aside0.mk ((by rw [hg]; exact Nat.ne_of_lt (blk_lt (g := gb725) (o := .cells #[.int .i64 0, .slice none 0 0] 26 (0, 0)) (by (with_reducible repeat (first | refine blk_drewN ?_ _ | refine blk_drew ?_ | refine blk_alloc ?_ _)); exact BK725.out)) : gb725 ≠ gb742))
            have n15_ := Aside0.mk ((by rw [hg]; exact Nat.ne_of_gt (blk_lt (g := gb725) (o := .cells #[.int .i64 0, .slice none 0 0] 26 (0, 0)) (by (with_reducible repeat (first | refine blk_drewN ?_ _ | refine blk_drew ?_ | refine blk_alloc ?_ _)); exact BK725.out)) : gb742 ≠ gb725))
            have n16_ := Aside0.mk ((by rw [hg]; exact Nat.ne_of_lt (blk_lt (g := gb728) (o := .cells #[.int .i64 (l0_0.length : Int), u729001] 26 (0, 0)) (by (with_reducible repeat (first | refine blk_drewN ?_ _ | refine blk_drew ?_ | refine blk_alloc ?_ _)); exact BK728.out)) : gb728 ≠ gb742))
            have n17_ := Aside0.mk ((by rw [hg]; exact Nat.ne_of_gt (blk_lt (g := gb728) (o := .cells #[.int .i64 (l0_0.length : Int), u729001] 26 (0, 0)) (by (with_reducible repeat (first | refine blk_drewN ?_ _ | refine blk_drew ?_ | refine blk_alloc ?_ _)); exact BK728.out)) : gb742 ≠ gb728))
            clear HO_5
            clear HO_725000
            clear HO_725001
            clear HO_729001
            clear BK724
            clear BK725
            clear BK728
            clear HR735
            clear HB
            have HO_5 := n0_
            have HO_725000 := n1_
            have HO_725001 := n2_
            have HO_729001 := n3_
            have BK724 := n4_
            have BK725 := n5_
            have BK728 := n6_
            have HR735 := n7_
            have HB := n8_
            have BK742 := n9_
            have GW742 := n10_
            have GE742 := n11_
            have NB724_742 := n12_
            have NB742_724 := n13_
            have NB725_742 := n14_
            have NB742_725 := n15_
            have NB728_742 := n16_
            have NB742_728 := n17_
            clear n0_ n1_ n2_ n3_ n4_ n5_ n6_ n7_ n8_ n9_ n10_ n11_ n12_ n13_ n14_ n15_ n16_ n17_
            clear hb hbox hg
            refine hK.out _ _ ⟨(blk_cell BK728.out 0).trans rfl, (blk_cell BK728.out 1).trans rfl⟩ (fun hHeld => ?_)
            clear hK K
            refine norm_ (a' := ?_) ?_ ?_
            rotate_left
            ·
             show Act.put _ (some 6) _ = _
             simp only [Act.put, List.setIfInBounds_toArray, List.set_cons_zero, List.set_cons_succ, i64_w, i32_w]
             rfl
            refine one_ (i := 5) (N := some 32) #[true, true, true, true, true, true, true, false] rfl rfl (one_of HT_.out (by kernel_rfl)) (by decide) (fun K hK => ?_)
            refine goes_ Try.func55 (by kernel_rfl) rfl #[.agg #[.int .i64 (l0_0.length : Int), .slice Ao35 y732.length co35]] (by rfl) rfl rfl (by (try simp only [List.map_toArray, List.map_cons, List.map_nil]); first | done | rfl | (simp only [List.length_drop, List.length_take]; rfl)) ?_
            with_reducible refine (impl_poleResult.calls k2 (l0_0.length : Int) _ _ y732 t736 t739 _ ?side1 ?side2 A30.out).mono ?_
            (case side1 => repeat (first | exact (by repeat (first | (with_reducible exact HR735.out) | (with_reducible refine Kd.C_alloc ?_ _) | (with_reducible refine Kd.C_drewN ?_ _) | (with_reducible refine Kd.C_drew ?_) | exact HR735.out)) | (with_reducible refine Kd.C_alloc ?_ _) | (with_reducible refine Kd.C_drewN ?_ _) | (with_reducible refine Kd.C_drew ?_)))
            (case side2 => exact HC735.out)
            rintro e w39 ⟨v737, v740, rfl, ho0, ho1, hb⟩
            refine ⟨_, rfl, ?_⟩
            have n0_ := Aside0.mk (Kd.R_mono (Kd.R_told (Kd.R_told (Kd.R_old (by (with_reducible repeat (first | apply Kd.R_alloc | apply Kd.R_drewN | apply Kd.R_drew)); exact HO_5.out) hb) (Kd.R_base ho0)) (Kd.R_base ho1)) (fun _ h_ => h_.1))
            have n1_ := Aside0.mk (Kd.V_mono (Kd.V_told (Kd.V_told (Kd.V_old (by (with_reducible repeat (first | apply Kd.V_alloc | apply Kd.V_drewN | apply Kd.V_drew)); exact HO_725000.out) hb) (Kd.R_base ho0)) (Kd.R_base ho1)) (fun _ h_ => h_.1))
            have n2_ := Aside0.mk (Kd.V_mono (Kd.V_told (Kd.V_told (Kd.V_old (by (with_reducible repeat (first | apply Kd.V_alloc | apply Kd.V_drewN | apply Kd.V_drew)); exact HO_725001.out) hb) (Kd.R_base ho0)) (Kd.R_base ho1)) (fun _ h_ => h_.1))
            have n3_ := Aside0.mk (Kd.R_mono (Kd.R_told (Kd.R_told (Kd.R_old (by (with_reducible repeat (first | apply Kd.R_alloc | apply Kd.R_drewN | apply Kd.R_drew)); exact HO_729001.out) hb) (Kd.R_base ho0)) (Kd.R_base ho1)) (fun _ h_ => h_.1))
            have n4_ := Aside0.mk (Kd.R_lower (Kd.R_new' (Kd.R_new' (Kd.R_newM (M := fun k_ => (w.heap.size ≤ k_)) ho0 (below_size (by repeat (first | (with_reducible first | exact HB.out | apply below_alloc | apply pw_below_drewN | apply below_drew1 | refine below_set ?_ GE724.out | refine below_set ?_ GE725.out | refine below_set ?_ GE728.out | refine below_set ?_ GE742.out) | exact HB.out))) (fun k_ h_ => h_)) (Kd.R_lt (by (with_reducible repeat (first | apply Kd.R_alloc | apply Kd.R_drewN | apply Kd.R_drew)); exact HO_5.out))) (Kd.R_lt (by (with_reducible repeat (first | apply Kd.R_alloc | apply Kd.R_drewN | apply Kd.R_drew)); exact HO_729001.out))) (below_size (by repeat (first | (with_reducible first | exact HB.out | apply below_alloc | apply pw_below_drewN | apply below_drew1 | refine below_set ?_ GE724.out | refine below_set ?_ GE725.out | refine below_set ?_ GE728.out | refine below_set ?_ GE742.out) | exact HB.out))))
            have n5_ := Aside0.mk (Kd.R_lower (Kd.R_new' (Kd.R_new' (Kd.R_newM (M := fun k_ => (w.heap.size ≤ k_)) ho1 (below_size (by repeat (first | (with_reducible first | exact HB.out | apply below_alloc | apply pw_below_drewN | apply below_drew1 | refine below_set ?_ GE724.out | refine below_set ?_ GE725.out | refine below_set ?_ GE728.out | refine below_set ?_ GE742.out) | exact HB.out))) (fun k_ h_ => h_)) (Kd.R_lt (by (with_reducible repeat (first | apply Kd.R_alloc | apply Kd.R_drewN | apply Kd.R_drew)); exact HO_5.out))) (Kd.R_lt (by (with_reducible repeat (first | apply Kd.R_alloc | apply Kd.R_drewN | apply Kd.R_drew)); exact HO_729001.out))) (below_size (by repeat (first | (with_reducible first | exact HB.out | apply below_alloc | apply pw_below_drewN | apply below_drew1 | refine below_set ?_ GE724.out | refine below_set ?_ GE725.out | refine below_set ?_ GE728.out | refine below_set ?_ GE742.out) | exact HB.out))))
            have n6_ := Aside0.mk (blk_below (g := gb724) (o := .cells #[u725000, u725001] 36 (0, 0)) (by (with_reducible repeat (first | refine blk_drewN ?_ _ | refine blk_drew ?_ | refine blk_alloc ?_ _)); exact BK724.out) hb)
            have n7_ := Aside0.mk (blk_below (g := gb725) (o := .cells #[.int .i64 0, .slice none 0 0] 26 (0, 0)) (by (with_reducible repeat (first | refine blk_drewN ?_ _ | refine blk_drew ?_ | refine blk_alloc ?_ _)); exact BK725.out) hb)
            have n8_ := Aside0.mk (blk_below (g := gb728) (o := .cells #[.int .i64 (l0_0.length : Int), u729001] 26 (0, 0)) (by (with_reducible repeat (first | refine blk_drewN ?_ _ | refine blk_drew ?_ | refine blk_alloc ?_ _)); exact BK728.out) hb)
            have n9_ := Aside0.mk (Kd.C_below (by repeat (first | (with_reducible exact HR735.out) | (with_reducible refine Kd.C_alloc ?_ _) | (with_reducible refine Kd.C_drewN ?_ _) | (with_reducible refine Kd.C_drew ?_) | exact HR735.out)) hb)
            have n10_ := Aside0.mk (blk_below (g := gb742) (o := .cells #[.slice none 0 0, .slice none 0 0] 36 (0, 0)) (by (with_reducible repeat (first | refine blk_drewN ?_ _ | refine blk_drew ?_ | refine blk_alloc ?_ _)); exact BK742.out) hb)
            have n11_ := Aside0.mk (below_step (by repeat (first | (with_reducible first | exact HB.out | apply below_alloc | apply pw_below_drewN | apply below_drew1 | refine below_set ?_ GE724.out | refine below_set ?_ GE725.out | refine below_set ?_ GE728.out | refine below_set ?_ GE742.out) | exact HB.out)) hb)
            clear HO_5
            clear HO_725000
            clear HO_725001
            clear HO_729001
            clear BK724
            clear BK725
            clear BK728
            clear HR735
            clear BK742
            clear HB
            have HO_5 := n0_
            have HO_725000 := n1_
            have HO_725001 := n2_
            have HO_729001 := n3_
            have HO738 := n4_
            have HO741 := n5_
            have BK724 := n6_
            have BK725 := n7_
            have BK728 := n8_
            have HR735 := n9_
            have BK742 := n10_
            have HB := n11_
            clear n0_ n1_ n2_ n3_ n4_ n5_ n6_ n7_ n8_ n9_ n10_ n11_
            (try clear hb)
            (try clear hb2)
            (try clear hk)
            (try clear hi)
            (try clear ho0)
            (try clear ho1)
            refine hK.out _ _ ⟨(blk_cell BK728.out 0).trans rfl, (blk_cell BK728.out 1).trans rfl⟩ (fun hHeld => ?_)
            clear hK K
            refine norm_ (a' := ?_) ?_ ?_
            rotate_left
            ·
             show Act.put _ (some 32) _ = _
             simp only [Act.put, List.setIfInBounds_toArray, List.set_cons_zero, List.set_cons_succ, i64_w, i32_w]
             rfl
            exact norm_ (by simp only [putAll, Act.put, List.setIfInBounds_toArray, List.set_cons_zero, List.set_cons_succ]) (hCont (v737, v740, gb742) _ ⟨hHeld, (by (with_reducible repeat (first | apply Kd.R_alloc | apply Kd.R_drewN | apply Kd.R_drew)); exact Kd.R_mono HO738.out (fun _ hk => ⟨hk.1.1.1, ⟨hk.1.1.2, ⟨hk.1.2, hk.2⟩⟩⟩)), (by (with_reducible repeat (first | apply Kd.R_alloc | apply Kd.R_drewN | apply Kd.R_drew)); exact Kd.R_mono HO741.out (fun _ hk => ⟨hk.1.1.1, ⟨hk.1.1.2, ⟨hk.1.2, hk.2⟩⟩⟩)), (by (with_reducible repeat (first | apply Kd.R_alloc | apply Kd.R_drewN | apply Kd.R_drew)); exact Kd.R_mono HO_5.out (fun _ hk => ⟨hk.1.1.1, ⟨hk.1.2, ⟨hk.2, hk.1.1.2⟩⟩⟩)), (by (with_reducible repeat (first | apply Kd.V_alloc | apply Kd.V_drewN | apply Kd.V_drew)); exact Kd.V_mono HO_725000.out (fun _ hk => ⟨hk.1.1.1.1, ⟨hk.1.2, ⟨hk.2, ⟨hk.1.1.1.2.1, ⟨hk.1.1.1.2.2.1, ⟨hk.1.1.1.2.2.2.1, ⟨hk.1.1.1.2.2.2.2.1, ⟨hk.1.1.1.2.2.2.2.2, hk.1.1.2⟩⟩⟩⟩⟩⟩⟩⟩)), (by (with_reducible repeat (first | apply Kd.V_alloc | apply Kd.V_drewN | apply Kd.V_drew)); exact Kd.V_mono HO_725001.out (fun _ hk => ⟨hk.1.1.1.1, ⟨hk.1.2, ⟨hk.2, ⟨hk.1.1.1.2.1, ⟨hk.1.1.1.2.2.1, ⟨hk.1.1.1.2.2.2.1, ⟨hk.1.1.1.2.2.2.2.1, ⟨hk.1.1.1.2.2.2.2.2, hk.1.1.2⟩⟩⟩⟩⟩⟩⟩⟩)), (by (with_reducible repeat (first | apply Kd.R_alloc | apply Kd.R_drewN | apply Kd.R_drew)); exact Kd.R_mono HO_729001.out (fun _ hk => ⟨hk.1.1.1, ⟨hk.1.2, ⟨hk.2, hk.1.1.2⟩⟩⟩)), (by (with_reducible repeat (first | refine blk_drewN ?_ _ | refine blk_drew ?_ | refine blk_alloc ?_ _)); exact BK724.out), (by (with_reducible repeat (first | refine blk_drewN ?_ _ | refine blk_drew ?_ | refine blk_alloc ?_ _)); exact BK725.out), (by (with_reducible repeat (first | refine blk_drewN ?_ _ | refine blk_drew ?_ | refine blk_alloc ?_ _)); exact BK728.out), (by (with_reducible repeat (first | refine blk_drewN ?_ _ | refine blk_drew ?_ | refine blk_alloc ?_ _)); exact BK742.out), GW742.out, GE742.out, NB724_742.out, NB742_724.out, NB725_742.out, NB742_725.out, NB728_742.out, NB742_728.out, (by repeat (first | (with_reducible first | exact HB.out | apply below_alloc | apply pw_below_drewN | apply below_drew1 | refine below_set ?_ GE724.out | refine below_set ?_ GE725.out | refine below_set ?_ GE728.out | refine below_set ?_ GE742.out) | exact HB.out))⟩)
          rintro ⟨v737, v740, gb742⟩ w40 ⟨hS_, h0_, h1_, h2_, h3_, h4_, h5_, h6_, h7_, h8_, h9_, h10_, h11_, h12_, h13_, h14_, h15_, h16_, h17_, h18_⟩
          have n0_ : Aside0 (Kd.R (Kd.int .i64) 3 w40 w.heap.size (fun k_ => (w.heap.size ≤ k_) ∧ some k_ ≠ (v740 : Value).ownBlock ∧ some k_ ≠ (.slice Ao35 x5_2.length co35 : Value).ownBlock ∧ some k_ ≠ (u729001 : Value).ownBlock) v737 t736) := ⟨h0_⟩
          have n1_ : Aside0 (Kd.R (Kd.int .i64) 3 w40 w.heap.size (fun k_ => (w.heap.size ≤ k_) ∧ some k_ ≠ (v737 : Value).ownBlock ∧ some k_ ≠ (.slice Ao35 x5_2.length co35 : Value).ownBlock ∧ some k_ ≠ (u729001 : Value).ownBlock) v740 t739) := ⟨h1_⟩
          have n2_ : Aside0 (Kd.R (Kd.int .i64) 3 w40 w.heap.size (fun k_ => (w.heap.size ≤ k_) ∧ some k_ ≠ (v737 : Value).ownBlock ∧ some k_ ≠ (v740 : Value).ownBlock ∧ some k_ ≠ (u729001 : Value).ownBlock) (.slice Ao35 x5_2.length co35) x5_2) := ⟨h2_⟩
          have n3_ : Aside0 (Kd.V (Kd.int .i64) 3 w40 w.heap.size (fun k_ => ((P0_0_ k_ ∨ P0_1_ k_) ∨ w.heap.size ≤ k_) ∧ some k_ ≠ (v737 : Value).ownBlock ∧ some k_ ≠ (v740 : Value).ownBlock ∧ some k_ ≠ (.slice Ao35 x5_2.length co35 : Value).ownBlock ∧ some k_ ≠ (u729001 : Value).ownBlock ∧ k_ ≠ gb724 ∧ k_ ≠ gb725 ∧ k_ ≠ gb728 ∧ k_ ≠ gb742) u725000 x725000_2) := ⟨h3_⟩
          have n4_ : Aside0 (Kd.V (Kd.int .i64) 3 w40 w.heap.size (fun k_ => ((P0_0_ k_ ∨ P0_1_ k_) ∨ w.heap.size ≤ k_) ∧ some k_ ≠ (v737 : Value).ownBlock ∧ some k_ ≠ (v740 : Value).ownBlock ∧ some k_ ≠ (.slice Ao35 x5_2.length co35 : Value).ownBlock ∧ some k_ ≠ (u729001 : Value).ownBlock ∧ k_ ≠ gb724 ∧ k_ ≠ gb725 ∧ k_ ≠ gb728 ∧ k_ ≠ gb742) u725001 x725001_2) := ⟨h4_⟩
          have n5_ : Aside0 (Kd.R (Kd.int .i64) 3 w40 w.heap.size (fun k_ => (w.heap.size ≤ k_) ∧ some k_ ≠ (v737 : Value).ownBlock ∧ some k_ ≠ (v740 : Value).ownBlock ∧ some k_ ≠ (.slice Ao35 x5_2.length co35 : Value).ownBlock) u729001 x729001_2) := ⟨h5_⟩
          have n6_ : Aside0 (w40.heap[gb724]? = some (.cells #[u725000, u725001] 36 (0, 0))) := ⟨h6_⟩
          have n7_ : Aside0 (w40.heap[gb725]? = some (.cells #[.int .i64 0, .slice none 0 0] 26 (0, 0))) := ⟨h7_⟩
          have n8_ : Aside0 (w40.heap[gb728]? = some (.cells #[.int .i64 (l0_0.length : Int), u729001] 26 (0, 0))) := ⟨h8_⟩
          have n9_ : Aside0 (w40.heap[gb742]? = some (.cells #[.slice none 0 0, .slice none 0 0] 36 (0, 0))) := ⟨h9_⟩
          have n10_ : Aside0 (w.heap.size ≤ gb742) := ⟨h10_⟩
          have n11_ : Aside0 (w.heap.size ≤ gb742) := ⟨h11_⟩
          have n12_ : Aside0 (gb724 ≠ gb742) := ⟨h12_⟩
          have n13_ : Aside0 (gb742 ≠ gb724) := ⟨h13_⟩
          have n14_ : Aside0 (gb725 ≠ gb742) := ⟨h14_⟩
          have n15_ : Aside0 (gb742 ≠ gb725) := ⟨h15_⟩
          have n16_ : Aside0 (gb728 ≠ gb742) := ⟨h16_⟩
          have n17_ : Aside0 (gb742 ≠ gb728) := ⟨h17_⟩
          have n18_ : Aside0 (Below w.heap.size w w40) := ⟨h18_⟩
          clear HO_5
          clear HO_725000
          clear HO_725001
          clear HO_729001
          clear BK724
          clear BK725
          clear BK728
          clear HB
          clear h0_ h1_ h2_ h3_ h4_ h5_ h6_ h7_ h8_ h9_ h10_ h11_ h12_ h13_ h14_ h15_ h16_ h17_ h18_
          have HO738 := n0_
          have HO741 := n1_
          have HO_5 := n2_
          have HO_725000 := n3_
          have HO_725001 := n4_
          have HO_729001 := n5_
          have BK724 := n6_
          have BK725 := n7_
          have BK728 := n8_
          have BK742 := n9_
          have GW742 := n10_
          have GE742 := n11_
          have NB724_742 := n12_
          have NB742_724 := n13_
          have NB725_742 := n14_
          have NB742_725 := n15_
          have NB728_742 := n16_
          have NB742_728 := n17_
          have HB := n18_
          clear n0_ n1_ n2_ n3_ n4_ n5_ n6_ n7_ n8_ n9_ n10_ n11_ n12_ n13_ n14_ n15_ n16_ n17_ n18_
          have hHeld : w40.cell? ⟨gb728, 0, none⟩ = some (.int .i64 (l0_0.length : Int)) ∧ w40.cell? ⟨gb728, 1, none⟩ = some (u729001) := hS_
          obtain ⟨Ao41, co41, eo41⟩ := Kd.R_slice HO738.out
          (first | subst eo41 | (injection eo41 with f1_ f2_ f3_; have f4_ := f1_.symm; have f5_ := f3_.symm; clear f1_ f2_ f3_; subst f4_; subst f5_))
          obtain ⟨Ao43, co43, eo43⟩ := Kd.R_slice HO741.out
          (first | subst eo43 | (injection eo43 with f1_ f2_ f3_; have f4_ := f1_.symm; have f5_ := f3_.symm; clear f1_ f2_ f3_; subst f4_; subst f5_))
          refine norm_ (a' := ?_) ?_ ?_
          rotate_left
          ·
           simp only [putAll, Act.put, List.setIfInBounds_toArray, List.set_cons_zero, List.set_cons_succ]
           rfl
          refine one_ (i := 7) (N := none) #[true, true, true, true, true, true, true, true] rfl rfl (one_of HT_.out (by kernel_rfl)) (by decide) (fun K hK => ?_)
          have hs42 : w40.cell? ⟨gb742, 0, none⟩ = some (.slice none 0 0) := (blk_cell BK742.out 0).trans rfl
          have hfs42 := blk_frozen BK742.out 0
          have hns42_0 := NB724_742.out
          have hns42_1 := NB725_742.out
          have hns42_2 := NB728_742.out
          have hms42_0 := NB742_724.out
          have hms42_1 := NB742_725.out
          have hms42_2 := NB742_728.out
          have hs44 : w40.cell? ⟨gb742, 1, none⟩ = some (.slice none 0 0) := (blk_cell BK742.out 1).trans rfl
          have hfs44 := blk_frozen BK742.out 1
          have hns44_0 := NB724_742.out
          have hns44_1 := NB725_742.out
          have hns44_2 := NB728_742.out
          have hms44_0 := NB742_724.out
          have hms44_1 := NB742_725.out
          have hms44_2 := NB742_728.out
          refine skip_ (w1 := ?_) (by rfl) rfl ?_ ?_
          rotate_left
          ·
           go_simp
           rfl
          refine hK.out _ _ ⟨((cell_far (p := ⟨gb742, _, none⟩) NB728_742.out _).trans (((cell_far (p := ⟨gb742, _, none⟩) NB728_742.out _).trans (hHeld.1)))), ((cell_far (p := ⟨gb742, _, none⟩) NB728_742.out _).trans (((cell_far (p := ⟨gb742, _, none⟩) NB728_742.out _).trans (hHeld.2))))⟩ (fun hHeld => ?_)
          clear hK K
          refine done_ (done_of HT_.out (by kernel_rfl)) ?_
          try go_wp2
          have n0_ : Aside0 (Kd.R (Kd.int .i64) 3 ((w40.setCell ⟨gb742, 0, none⟩ (.slice Ao41 t736.length co41)).setCell ⟨gb742, 1, none⟩ (.slice Ao43 t739.length co43)) w.heap.size (fun k_ => (w.heap.size ≤ k_) ∧ some k_ ≠ (u729001 : Value).ownBlock ∧ some k_ ≠ (.slice Ao41 t736.length co41 : Value).ownBlock ∧ some k_ ≠ (.slice Ao43 t739.length co43 : Value).ownBlock) (.slice Ao35 x5_2.length co35) x5_2) := ⟨by (with_reducible repeat (first | apply Kd.R_alloc | apply Kd.R_drewN | apply Kd.R_drew)); exact Kd.R_mono (Kd.R_far (p := ⟨gb742, 1, none⟩) (Kd.R_far (p := ⟨gb742, 0, none⟩) (Kd.R_types HO_5.out BK742.out (by decide)) (fun _ hk => hk.2) (.slice Ao41 t736.length co41)) (fun _ hk => hk.2) (.slice Ao43 t739.length co43)) (fun _ hk => ⟨hk.1.1, ⟨hk.1.2.2.2, ⟨hk.1.2.1, hk.1.2.2.1⟩⟩⟩)⟩
          have n1_ : Aside0 (Kd.V (Kd.int .i64) 3 ((w40.setCell ⟨gb742, 0, none⟩ (.slice Ao41 t736.length co41)).setCell ⟨gb742, 1, none⟩ (.slice Ao43 t739.length co43)) w.heap.size (fun k_ => ((P0_0_ k_ ∨ P0_1_ k_) ∨ w.heap.size ≤ k_) ∧ some k_ ≠ (.slice Ao35 x5_2.length co35 : Value).ownBlock ∧ some k_ ≠ (u729001 : Value).ownBlock ∧ some k_ ≠ (.slice Ao41 t736.length co41 : Value).ownBlock ∧ some k_ ≠ (.slice Ao43 t739.length co43 : Value).ownBlock ∧ k_ ≠ gb724 ∧ k_ ≠ gb725 ∧ k_ ≠ gb728 ∧ k_ ≠ gb742) u725000 x725000_2) := ⟨by (with_reducible repeat (first | apply Kd.V_alloc | apply Kd.V_drewN | apply Kd.V_drew)); exact Kd.V_mono (Kd.V_far (p := ⟨gb742, 1, none⟩) (Kd.V_far (p := ⟨gb742, 0, none⟩) (Kd.V_mono HO_725000.out (fun k_ hk => (⟨hk, hk.2.2.2.2.2.2.2.2⟩ : _ ∧ k_ ≠ gb742))) (fun _ hk => hk.2) (.slice Ao41 t736.length co41)) (fun _ hk => hk.2) (.slice Ao43 t739.length co43)) (fun _ hk => ⟨hk.1.1, ⟨hk.1.2.2.2.1, ⟨hk.1.2.2.2.2.1, ⟨hk.1.2.1, ⟨hk.1.2.2.1, ⟨hk.1.2.2.2.2.2.1, ⟨hk.1.2.2.2.2.2.2.1, ⟨hk.1.2.2.2.2.2.2.2.1, hk.1.2.2.2.2.2.2.2.2⟩⟩⟩⟩⟩⟩⟩⟩)⟩
          have n2_ : Aside0 (Kd.V (Kd.int .i64) 3 ((w40.setCell ⟨gb742, 0, none⟩ (.slice Ao41 t736.length co41)).setCell ⟨gb742, 1, none⟩ (.slice Ao43 t739.length co43)) w.heap.size (fun k_ => ((P0_0_ k_ ∨ P0_1_ k_) ∨ w.heap.size ≤ k_) ∧ some k_ ≠ (.slice Ao35 x5_2.length co35 : Value).ownBlock ∧ some k_ ≠ (u729001 : Value).ownBlock ∧ some k_ ≠ (.slice Ao41 t736.length co41 : Value).ownBlock ∧ some k_ ≠ (.slice Ao43 t739.length co43 : Value).ownBlock ∧ k_ ≠ gb724 ∧ k_ ≠ gb725 ∧ k_ ≠ gb728 ∧ k_ ≠ gb742) u725001 x725001_2) := ⟨by (with_reducible repeat (first | apply Kd.V_alloc | apply Kd.V_drewN | apply Kd.V_drew)); exact Kd.V_mono (Kd.V_far (p := ⟨gb742, 1, none⟩) (Kd.V_far (p := ⟨gb742, 0, none⟩) (Kd.V_mono HO_725001.out (fun k_ hk => (⟨hk, hk.2.2.2.2.2.2.2.2⟩ : _ ∧ k_ ≠ gb742))) (fun _ hk => hk.2) (.slice Ao41 t736.length co41)) (fun _ hk => hk.2) (.slice Ao43 t739.length co43)) (fun _ hk => ⟨hk.1.1, ⟨hk.1.2.2.2.1, ⟨hk.1.2.2.2.2.1, ⟨hk.1.2.1, ⟨hk.1.2.2.1, ⟨hk.1.2.2.2.2.2.1, ⟨hk.1.2.2.2.2.2.2.1, ⟨hk.1.2.2.2.2.2.2.2.1, hk.1.2.2.2.2.2.2.2.2⟩⟩⟩⟩⟩⟩⟩⟩)⟩
          have n3_ : Aside0 (Kd.R (Kd.int .i64) 3 ((w40.setCell ⟨gb742, 0, none⟩ (.slice Ao41 t736.length co41)).setCell ⟨gb742, 1, none⟩ (.slice Ao43 t739.length co43)) w.heap.size (fun k_ => (w.heap.size ≤ k_) ∧ some k_ ≠ (.slice Ao35 x5_2.length co35 : Value).ownBlock ∧ some k_ ≠ (.slice Ao41 t736.length co41 : Value).ownBlock ∧ some k_ ≠ (.slice Ao43 t739.length co43 : Value).ownBlock) u729001 x729001_2) := ⟨by (with_reducible repeat (first | apply Kd.R_alloc | apply Kd.R_drewN | apply Kd.R_drew)); exact Kd.R_mono (Kd.R_far (p := ⟨gb742, 1, none⟩) (Kd.R_far (p := ⟨gb742, 0, none⟩) (Kd.R_types HO_729001.out BK742.out (by decide)) (fun _ hk => hk.2) (.slice Ao41 t736.length co41)) (fun _ hk => hk.2) (.slice Ao43 t739.length co43)) (fun _ hk => ⟨hk.1.1, ⟨hk.1.2.2.2, ⟨hk.1.2.1, hk.1.2.2.1⟩⟩⟩)⟩
          have n4_ : Aside0 (Kd.R (Kd.int .i64) 3 ((w40.setCell ⟨gb742, 0, none⟩ (.slice Ao41 t736.length co41)).setCell ⟨gb742, 1, none⟩ (.slice Ao43 t739.length co43)) w.heap.size (fun k_ => (w.heap.size ≤ k_) ∧ some k_ ≠ (.slice Ao35 x5_2.length co35 : Value).ownBlock ∧ some k_ ≠ (u729001 : Value).ownBlock ∧ some k_ ≠ (.slice Ao43 t739.length co43 : Value).ownBlock) (.slice Ao41 t736.length co41) t736) := ⟨by (with_reducible repeat (first | apply Kd.R_alloc | apply Kd.R_drewN | apply Kd.R_drew)); exact Kd.R_mono (Kd.R_far (p := ⟨gb742, 1, none⟩) (Kd.R_far (p := ⟨gb742, 0, none⟩) (Kd.R_types HO738.out BK742.out (by decide)) (fun _ hk => hk.2) (.slice Ao41 t736.length co41)) (fun _ hk => hk.2) (.slice Ao43 t739.length co43)) (fun _ hk => ⟨hk.1.1, ⟨hk.1.2.2.1, ⟨hk.1.2.2.2, hk.1.2.1⟩⟩⟩)⟩
          have n5_ : Aside0 (Kd.R (Kd.int .i64) 3 ((w40.setCell ⟨gb742, 0, none⟩ (.slice Ao41 t736.length co41)).setCell ⟨gb742, 1, none⟩ (.slice Ao43 t739.length co43)) w.heap.size (fun k_ => (w.heap.size ≤ k_) ∧ some k_ ≠ (.slice Ao35 x5_2.length co35 : Value).ownBlock ∧ some k_ ≠ (u729001 : Value).ownBlock ∧ some k_ ≠ (.slice Ao41 t736.length co41 : Value).ownBlock) (.slice Ao43 t739.length co43) t739) := ⟨by (with_reducible repeat (first | apply Kd.R_alloc | apply Kd.R_drewN | apply Kd.R_drew)); exact Kd.R_mono (Kd.R_far (p := ⟨gb742, 1, none⟩) (Kd.R_far (p := ⟨gb742, 0, none⟩) (Kd.R_types HO741.out BK742.out (by decide)) (fun _ hk => hk.2) (.slice Ao41 t736.length co41)) (fun _ hk => hk.2) (.slice Ao43 t739.length co43)) (fun _ hk => ⟨hk.1.1, ⟨hk.1.2.2.1, ⟨hk.1.2.2.2, hk.1.2.1⟩⟩⟩)⟩
          have n6_ : Aside0 (((w40.setCell ⟨gb742, 0, none⟩ (.slice Ao41 t736.length co41)).setCell ⟨gb742, 1, none⟩ (.slice Ao43 t739.length co43)).heap[gb724]? = some (.cells #[u725000, u725001] 36 (0, 0))) := ⟨by (with_reducible repeat (first | refine blk_drewN ?_ _ | refine blk_drew ?_ | refine blk_alloc ?_ _)); refine blk_far ?_ NB724_742.out _; (with_reducible repeat (first | refine blk_drewN ?_ _ | refine blk_drew ?_ | refine blk_alloc ?_ _)); refine blk_far ?_ NB724_742.out _; (with_reducible repeat (first | refine blk_drewN ?_ _ | refine blk_drew ?_ | refine blk_alloc ?_ _)); exact BK724.out⟩
          have n7_ : Aside0 (((w40.setCell ⟨gb742, 0, none⟩ (.slice Ao41 t736.length co41)).setCell ⟨gb742, 1, none⟩ (.slice Ao43 t739.length co43)).heap[gb725]? = some (.cells #[.int .i64 0, .slice none 0 0] 26 (0, 0))) := ⟨by (with_reducible repeat (first | refine blk_drewN ?_ _ | refine blk_drew ?_ | refine blk_alloc ?_ _)); refine blk_far ?_ NB725_742.out _; (with_reducible repeat (first | refine blk_drewN ?_ _ | refine blk_drew ?_ | refine blk_alloc ?_ _)); refine blk_far ?_ NB725_742.out _; (with_reducible repeat (first | refine blk_drewN ?_ _ | refine blk_drew ?_ | refine blk_alloc ?_ _)); exact BK725.out⟩
          have n8_ : Aside0 (((w40.setCell ⟨gb742, 0, none⟩ (.slice Ao41 t736.length co41)).setCell ⟨gb742, 1, none⟩ (.slice Ao43 t739.length co43)).heap[gb728]? = some (.cells #[.int .i64 (l0_0.length : Int), u729001] 26 (0, 0))) := ⟨by (with_reducible repeat (first | refine blk_drewN ?_ _ | refine blk_drew ?_ | refine blk_alloc ?_ _)); refine blk_far ?_ NB728_742.out _; (with_reducible repeat (first | refine blk_drewN ?_ _ | refine blk_drew ?_ | refine blk_alloc ?_ _)); refine blk_far ?_ NB728_742.out _; (with_reducible repeat (first | refine blk_drewN ?_ _ | refine blk_drew ?_ | refine blk_alloc ?_ _)); exact BK728.out⟩
          have n9_ : Aside0 (((w40.setCell ⟨gb742, 0, none⟩ (.slice Ao41 t736.length co41)).setCell ⟨gb742, 1, none⟩ (.slice Ao43 t739.length co43)).heap[gb742]? = some (.cells #[.slice Ao41 t736.length co41, .slice Ao43 t739.length co43] 36 (0, 0))) := ⟨by (with_reducible repeat (first | refine blk_drewN ?_ _ | refine blk_drew ?_ | refine blk_alloc ?_ _)); refine blk_put (cs := #[.slice Ao41 t736.length co41, .slice none 0 0]) ?_ 1 _ rfl; (with_reducible repeat (first | refine blk_drewN ?_ _ | refine blk_drew ?_ | refine blk_alloc ?_ _)); refine blk_put (cs := #[.slice none 0 0, .slice none 0 0]) ?_ 0 _ rfl; (with_reducible repeat (first | refine blk_drewN ?_ _ | refine blk_drew ?_ | refine blk_alloc ?_ _)); exact BK742.out⟩
          have n10_ : Aside0 (Below w.heap.size w ((w40.setCell ⟨gb742, 0, none⟩ (.slice Ao41 t736.length co41)).setCell ⟨gb742, 1, none⟩ (.slice Ao43 t739.length co43))) := ⟨by repeat (first | (with_reducible first | exact HB.out | apply below_alloc | apply pw_below_drewN | apply below_drew1 | refine below_set ?_ GE724.out | refine below_set ?_ GE725.out | refine below_set ?_ GE728.out | refine below_set ?_ GE742.out) | exact HB.out)⟩
          (try clear HO_5)
          (try clear HO_725000)
          (try clear HO_725001)
          (try clear HO_729001)
          (try clear HO738)
          (try clear HO741)
          (try clear BK724)
          (try clear BK725)
          (try clear BK728)
          (try clear BK742)
          (try clear HB)
          generalize ((w40.setCell ⟨gb742, 0, none⟩ (.slice Ao41 t736.length co41)).setCell ⟨gb742, 1, none⟩ (.slice Ao43 t739.length co43)) = w45 at n0_ n1_ n2_ n3_ n4_ n5_ n6_ n7_ n8_ n9_ n10_ ⊢
          have HO_5 := n0_
          have HO_725000 := n1_
          have HO_725001 := n2_
          have HO_729001 := n3_
          have HO738 := n4_
          have HO741 := n5_
          have BK724 := n6_
          have BK725 := n7_
          have BK728 := n8_
          have BK742 := n9_
          have HB := n10_
          clear n0_ n1_ n2_ n3_ n4_ n5_ n6_ n7_ n8_ n9_ n10_
          have n0_ := Aside0.mk (Kd.R_drew HO_5.out)
          have n1_ := Aside0.mk (Kd.V_drew HO_725000.out)
          have n2_ := Aside0.mk (Kd.V_drew HO_725001.out)
          have n3_ := Aside0.mk (Kd.R_drew HO_729001.out)
          have n4_ := Aside0.mk (Kd.R_drew HO738.out)
          have n5_ := Aside0.mk (Kd.R_drew HO741.out)
          have n6_ := Aside0.mk (blk_drew BK724.out)
          have n7_ := Aside0.mk (blk_drew BK725.out)
          have n8_ := Aside0.mk (blk_drew BK728.out)
          have n9_ := Aside0.mk (blk_drew BK742.out)
          have n10_ := Aside0.mk (below_drew1 HB.out)
          clear HO_5
          clear HO_725000
          clear HO_725001
          clear HO_729001
          clear HO738
          clear HO741
          clear BK724
          clear BK725
          clear BK728
          clear BK742
          clear HB
          have HO_5 := n0_
          have HO_725000 := n1_
          have HO_725001 := n2_
          have HO_729001 := n3_
          have HO738 := n4_
          have HO741 := n5_
          have BK724 := n6_
          have BK725 := n7_
          have BK728 := n8_
          have BK742 := n9_
          have HB := n10_
          clear n0_ n1_ n2_ n3_ n4_ n5_ n6_ n7_ n8_ n9_ n10_
          have p743 : 0 ≤ (0 : Int) := (by omega)
          have q743 : 0 < (x5_2.length : Int) := of_decide_eq_true (by first | (with_reducible assumption) | assumption)
          obtain ⟨ad743, e743, hx743_0⟩ := Kd.at_int (Kd.R_reads' HO_5.out).2.2 0 p743 q743
          cases e743
          have qi743 : (0 < x5_2.length) = True := eq_true (by omega)
          (try rw [show ((0 : Int)).toNat = 0 from rfl] at hx743_0)
          (try rw [Addr.add_zero'] at hx743_0)
          replace p743 := eq_true p743
          replace q743 := eq_true q743
          refine start_ (n := 13) (S := fun w' => w'.cell? ⟨gb728, 0, none⟩ = some (.int .i64 (l0_0.length : Int)) ∧ w'.cell? ⟨gb728, 1, none⟩ = some (u729001) ∧ w'.cell? ⟨gb742, 0, none⟩ = some (.slice Ao41 t736.length co41) ∧ w'.cell? ⟨gb742, 1, none⟩ = some (.slice Ao43 t739.length co43) ∧ w'.cell? ⟨gb724, 0, none⟩ = some (u725000) ∧ w'.cell? ⟨gb724, 1, none⟩ = some (u725001) ∧ w'.cell? ad743 = some (.int .i64 (rd x5_2 0))) (ds := [11, 12]) #[false, false, false, false, false, false, false, false, false, false, false, false, false] (by kernel_rfl) rfl rfl ⟨(blk_cell BK728.out 0).trans rfl, (blk_cell BK728.out 1).trans rfl, (blk_cell BK742.out 0).trans rfl, (blk_cell BK742.out 1).trans rfl, (blk_cell BK724.out 0).trans rfl, (blk_cell BK724.out 1).trans rfl, hx743_0⟩ (fun hHeld => ?_); refine with_tabW impl_LeastPole.tab8 impl_LeastPole.bits8 (fun HT_ HW_ => ?_)
          generalize w45.drew = w46 at HO_5 HO_725000 HO_725001 HO_729001 HO738 HO741 BK724 BK725 BK728 BK742 HB hx743_0 hHeld ⊢
          refine pure_ (i := 0) (N := some 33) (v := ?_) (a' := ?_) #[true, false, false, false, false, false, false, false, false, false, false, false, false] rfl rfl (any_of HT_.out (by kernel_rfl)) (fun _ _ _ h => h) (Or.inl ⟨by rfl, ?_⟩) ?_ ?_
          rotate_left
          ·
           intro w'
           go_simp
           with_reducible rfl
          rotate_left
          ·
           simp only [Act.put, List.setIfInBounds_toArray, List.set_cons_zero, List.set_cons_succ, i64_w, i32_w]
           rfl
          refine pure_ (i := 2) (N := some 35) (v := ?_) (a' := ?_) #[true, false, true, false, false, false, false, false, false, false, false, false, false] rfl rfl (any_of HT_.out (by kernel_rfl)) (fun _ _ _ h => h) (Or.inl ⟨by rfl, ?_⟩) ?_ ?_
          rotate_left
          ·
           intro w'
           go_simp
           with_reducible rfl
          rotate_left
          ·
           simp only [Act.put, List.setIfInBounds_toArray, List.set_cons_zero, List.set_cons_succ, i64_w, i32_w]
           rfl
          refine pure_ (i := 3) (N := some 36) (v := ?_) (a' := ?_) #[true, false, true, true, false, false, false, false, false, false, false, false, false] rfl rfl (any_of HT_.out (by kernel_rfl)) (fun _ _ _ h => h) (Or.inl ⟨by rfl, ?_⟩) ?_ ?_
          rotate_left
          ·
           intro w'
           go_simp
           with_reducible rfl
          rotate_left
          ·
           simp only [Act.put, List.setIfInBounds_toArray, List.set_cons_zero, List.set_cons_succ, i64_w, i32_w]
           rfl
          refine take_ (i := 1) (N := some 34) (v := ?_) (a' := ?_) #[true, true, true, true, false, false, false, false, false, false, false, false, false] rfl rfl (take_ofW HT_.out HW_.out (by kernel_rfl)) (fun _ _ _ h => h) (Or.inl ⟨by rfl, ?_⟩) hHeld ?_ ?_
          rotate_left
          ·
           rintro w' ⟨s0, s1, s2, s3, s4, s5, s6⟩
           go_simp
           with_reducible rfl
          rotate_left
          ·
           simp only [Act.put, List.setIfInBounds_toArray, List.set_cons_zero, List.set_cons_succ, i64_w, i32_w]
           rfl
          refine take_ (i := 4) (N := some 37) (v := ?_) (a' := ?_) #[true, true, true, true, true, false, false, false, false, false, false, false, false] rfl rfl (take_ofW HT_.out HW_.out (by kernel_rfl)) (fun _ _ _ h => h) (Or.inl ⟨by rfl, ?_⟩) hHeld ?_ ?_
          rotate_left
          ·
           rintro w' ⟨s0, s1, s2, s3, s4, s5, s6⟩
           go_simp
           with_reducible rfl
          rotate_left
          ·
           simp only [Act.put, List.setIfInBounds_toArray, List.set_cons_zero, List.set_cons_succ, i64_w, i32_w]
           rfl
          refine take_ (i := 7) (N := some 40) (v := ?_) (a' := ?_) #[true, true, true, true, true, false, false, true, false, false, false, false, false] rfl rfl (take_ofW HT_.out HW_.out (by kernel_rfl)) (fun _ _ _ h => h) (Or.inl ⟨by rfl, ?_⟩) hHeld ?_ ?_
          rotate_left
          ·
           rintro w' ⟨s0, s1, s2, s3, s4, s5, s6⟩
           go_simp
           with_reducible rfl
          rotate_left
          ·
           simp only [Act.put, List.setIfInBounds_toArray, List.set_cons_zero, List.set_cons_succ, i64_w, i32_w]
           rfl
          refine take_ (i := 8) (N := some 41) (v := ?_) (a' := ?_) #[true, true, true, true, true, false, false, true, true, false, false, false, false] rfl rfl (take_ofW HT_.out HW_.out (by kernel_rfl)) (fun _ _ _ h => h) (Or.inl ⟨by rfl, ?_⟩) hHeld ?_ ?_
          rotate_left
          ·
           rintro w' ⟨s0, s1, s2, s3, s4, s5, s6⟩
           go_simp
           with_reducible rfl
          rotate_left
          ·
           simp only [Act.put, List.setIfInBounds_toArray, List.set_cons_zero, List.set_cons_succ, i64_w, i32_w]
           rfl
          refine one_ (i := 5) (N := some 38) #[true, true, true, true, true, true, false, true, true, false, false, false, false] rfl rfl (one_of HT_.out (by kernel_rfl)) (by decide) (fun K hK => ?_)
          refine value_ (w1 := ?_) (v := ?_) (by rfl) rfl ?_ ?_
          rotate_left 2
          ·
           go_simp
           constructor
           ·
            rfl
           ·
            rfl
          refine hK.out _ _ ⟨(blk_cell (blk_alloc BK728.out _) 0).trans rfl, (blk_cell (blk_alloc BK728.out _) 1).trans rfl, (blk_cell (blk_alloc BK742.out _) 0).trans rfl, (blk_cell (blk_alloc BK742.out _) 1).trans rfl, (blk_cell (blk_alloc BK724.out _) 0).trans rfl, (blk_cell (blk_alloc BK724.out _) 1).trans rfl, (World.cell?_alloc_lt _ _ _ (World.block_lt_of_cell? _ _ (hHeld.2.2.2.2.2.2))).trans (hHeld.2.2.2.2.2.2)⟩ (fun hHeld => ?_)
          clear hK K
          refine norm_ (a' := ?_) ?_ ?_
          rotate_left
          ·
           show Act.put _ (some 38) _ = _
           simp only [Act.put, List.setIfInBounds_toArray, List.set_cons_zero, List.set_cons_succ, i64_w, i32_w]
           rfl
          refine one_ (i := 6) (N := some 39) #[true, true, true, true, true, true, true, true, true, false, false, false, false] rfl rfl (one_of HT_.out (by kernel_rfl)) (by decide) (fun K hK => ?_)
          refine Kd.R_append_step (Kd.int .i64) (w0 := w) w.heap.size (by rfl) (.tmp 34) (.tmp 38) 22 3 (.int .i64 0) 8 rfl Try.underlying22 info3 rfl (by decide) (by omega) u729001 x729001_2 (rd x5_2 0) [.int .i64 (rd x5_2 0)] (fun k_ => (w.heap.size ≤ k_) ∧ some k_ ≠ (.slice (some ad743) x5_2.length co35 : Value).ownBlock ∧ some k_ ≠ (.slice Ao41 t736.length co41 : Value).ownBlock ∧ some k_ ≠ (.slice Ao43 t739.length co43 : Value).ownBlock) (fun _ => False) rfl rfl ?aP (fun _ hk => hk.elim) ?aF ?aO ?aB ?aS ?aL ?_
          (case aP => exact rfl)
          (case aB => exact (by repeat (first | (with_reducible first | exact HB.out | apply below_alloc | apply pw_below_drewN | apply below_drew1 | refine below_set ?_ GE724.out | refine below_set ?_ GE725.out | refine below_set ?_ GE728.out | refine below_set ?_ GE742.out) | exact HB.out)))
          (case aF => exact (fun k_ hk => ⟨(Nat.le_trans (below_size (by repeat (first | (with_reducible first | exact HB.out | apply below_alloc | apply pw_below_drewN | apply below_drew1 | refine below_set ?_ GE724.out | refine below_set ?_ GE725.out | refine below_set ?_ GE728.out | refine below_set ?_ GE742.out) | exact HB.out))) hk), Kd.fresh' (Kd.R_lt (by (with_reducible repeat (first | apply Kd.R_alloc | apply Kd.R_drewN | apply Kd.R_drew)); exact HO_5.out)) k_ hk, Kd.fresh' (Kd.R_lt (by (with_reducible repeat (first | apply Kd.R_alloc | apply Kd.R_drewN | apply Kd.R_drew)); exact HO738.out)) k_ hk, Kd.fresh' (Kd.R_lt (by (with_reducible repeat (first | apply Kd.R_alloc | apply Kd.R_drewN | apply Kd.R_drew)); exact HO741.out)) k_ hk⟩))
          (case aO => exact (by (with_reducible repeat (first | apply Kd.R_alloc | apply Kd.R_drewN | apply Kd.R_drew)); exact HO_729001.out))
          (case aS => exact (below_size (by repeat (first | (with_reducible first | exact HB.out | apply below_alloc | apply pw_below_drewN | apply below_drew1 | refine below_set ?_ GE724.out | refine below_set ?_ GE725.out | refine below_set ?_ GE728.out | refine below_set ?_ GE742.out) | exact HB.out))))
          (case aL => have := LMc32.out; omega)
          intro v745 w47 ho hb hg hat
          (first | have HS6_ := cell_grown hg (hHeld.2.2.2.2.2.2) (by first | (rw [add_block]; exact (by have h_ := HO_5.out.1 _ rfl; first | exact h_ | exact h_.1 | exact h_.2 | exact h_.1.1 | exact h_.1.2 | exact h_.2.1 | exact h_.2.2 | exact h_.1.1.1 | exact h_.1.1.2 | exact h_.1.2.1 | exact h_.1.2.2 | exact h_.2.1.1 | exact h_.2.1.2 | exact h_.2.2.1 | exact h_.2.2.2 | exact h_.1.1.1.1 | exact h_.1.1.1.2 | exact h_.1.1.2.1 | exact h_.1.1.2.2 | exact h_.1.2.1.1 | exact h_.1.2.1.2 | exact h_.1.2.2.1 | exact h_.1.2.2.2 | exact fun e_ => absurd (HO_729001.out.1 _ e_.symm) (by simp))) | (show some (Addr.add _ _).block ≠ _; rw [add_block]; exact (by have h_ := HO_5.out.1 _ rfl; first | exact h_ | exact h_.1 | exact h_.2 | exact h_.1.1 | exact h_.1.2 | exact h_.2.1 | exact h_.2.2 | exact h_.1.1.1 | exact h_.1.1.2 | exact h_.1.2.1 | exact h_.1.2.2 | exact h_.2.1.1 | exact h_.2.1.2 | exact h_.2.2.1 | exact h_.2.2.2 | exact h_.1.1.1.1 | exact h_.1.1.1.2 | exact h_.1.1.2.1 | exact h_.1.1.2.2 | exact h_.1.2.1.1 | exact h_.1.2.1.2 | exact h_.1.2.2.1 | exact h_.1.2.2.2 | exact fun e_ => absurd (HO_729001.out.1 _ e_.symm) (by simp))) | exact (by have h_ := HO_5.out.1 _ rfl; first | exact h_ | exact h_.1 | exact h_.2 | exact h_.1.1 | exact h_.1.2 | exact h_.2.1 | exact h_.2.2 | exact h_.1.1.1 | exact h_.1.1.2 | exact h_.1.2.1 | exact h_.1.2.2 | exact h_.2.1.1 | exact h_.2.1.2 | exact h_.2.2.1 | exact h_.2.2.2 | exact h_.1.1.1.1 | exact h_.1.1.1.2 | exact h_.1.1.2.1 | exact h_.1.1.2.2 | exact h_.1.2.1.1 | exact h_.1.2.1.2 | exact h_.1.2.2.1 | exact h_.1.2.2.2 | exact fun e_ => absurd (HO_729001.out.1 _ e_.symm) (by simp))) | have HS6_ := cell_grown hg (cell_unalloc (hHeld.2.2.2.2.2.2) (by first | (rw [add_block]; exact Kd.R_lt HO_5.out _ rfl) | (show (Addr.add _ _).block < _; rw [add_block]; exact Kd.R_lt HO_5.out _ rfl) | exact Kd.R_lt HO_5.out _ rfl)) (by first | (rw [add_block]; exact (by have h_ := HO_5.out.1 _ rfl; first | exact h_ | exact h_.1 | exact h_.2 | exact h_.1.1 | exact h_.1.2 | exact h_.2.1 | exact h_.2.2 | exact h_.1.1.1 | exact h_.1.1.2 | exact h_.1.2.1 | exact h_.1.2.2 | exact h_.2.1.1 | exact h_.2.1.2 | exact h_.2.2.1 | exact h_.2.2.2 | exact h_.1.1.1.1 | exact h_.1.1.1.2 | exact h_.1.1.2.1 | exact h_.1.1.2.2 | exact h_.1.2.1.1 | exact h_.1.2.1.2 | exact h_.1.2.2.1 | exact h_.1.2.2.2 | exact fun e_ => absurd (HO_729001.out.1 _ e_.symm) (by simp))) | (show some (Addr.add _ _).block ≠ _; rw [add_block]; exact (by have h_ := HO_5.out.1 _ rfl; first | exact h_ | exact h_.1 | exact h_.2 | exact h_.1.1 | exact h_.1.2 | exact h_.2.1 | exact h_.2.2 | exact h_.1.1.1 | exact h_.1.1.2 | exact h_.1.2.1 | exact h_.1.2.2 | exact h_.2.1.1 | exact h_.2.1.2 | exact h_.2.2.1 | exact h_.2.2.2 | exact h_.1.1.1.1 | exact h_.1.1.1.2 | exact h_.1.1.2.1 | exact h_.1.1.2.2 | exact h_.1.2.1.1 | exact h_.1.2.1.2 | exact h_.1.2.2.1 | exact h_.1.2.2.2 | exact fun e_ => absurd (HO_729001.out.1 _ e_.symm) (by simp))) | exact (by have h_ := HO_5.out.1 _ rfl; first | exact h_ | exact h_.1 | exact h_.2 | exact h_.1.1 | exact h_.1.2 | exact h_.2.1 | exact h_.2.2 | exact h_.1.1.1 | exact h_.1.1.2 | exact h_.1.2.1 | exact h_.1.2.2 | exact h_.2.1.1 | exact h_.2.1.2 | exact h_.2.2.1 | exact h_.2.2.2 | exact h_.1.1.1.1 | exact h_.1.1.1.2 | exact h_.1.1.2.1 | exact h_.1.1.2.2 | exact h_.1.2.1.1 | exact h_.1.2.1.2 | exact h_.1.2.2.1 | exact h_.1.2.2.2 | exact fun e_ => absurd (HO_729001.out.1 _ e_.symm) (by simp))))
          rw [← Ny744.out] at ho
          have n0_ := Aside0.mk (Kd.R_after (ok := (fun k_ => (w.heap.size ≤ k_) ∧ some k_ ≠ (.slice Ao41 t736.length co41 : Value).ownBlock ∧ some k_ ≠ (.slice Ao43 t739.length co43 : Value).ownBlock)) (by (with_reducible repeat (first | apply Kd.R_alloc | apply Kd.R_drewN | apply Kd.R_drew)); exact Kd.R_mono HO_5.out (fun _ hk => ⟨⟨hk.1, ⟨hk.2.2.1, hk.2.2.2⟩⟩, hk.2.1⟩)) hg hat)
          have n1_ := Aside0.mk (Kd.V_afterv (ok := (fun k_ => ((P0_0_ k_ ∨ P0_1_ k_) ∨ w.heap.size ≤ k_) ∧ some k_ ≠ (.slice (some ad743) x5_2.length co35 : Value).ownBlock ∧ some k_ ≠ (.slice Ao41 t736.length co41 : Value).ownBlock ∧ some k_ ≠ (.slice Ao43 t739.length co43 : Value).ownBlock ∧ k_ ≠ gb724 ∧ k_ ≠ gb725 ∧ k_ ≠ gb728 ∧ k_ ≠ gb742)) (by (with_reducible repeat (first | apply Kd.V_alloc | apply Kd.V_drewN | apply Kd.V_drew)); exact Kd.V_mono HO_725000.out (fun _ hk => ⟨⟨hk.1, ⟨hk.2.1, ⟨hk.2.2.2.1, ⟨hk.2.2.2.2.1, ⟨hk.2.2.2.2.2.1, ⟨hk.2.2.2.2.2.2.1, ⟨hk.2.2.2.2.2.2.2.1, hk.2.2.2.2.2.2.2.2⟩⟩⟩⟩⟩⟩⟩, hk.2.2.1⟩)) hg hat)
          have n2_ := Aside0.mk (Kd.V_afterv (ok := (fun k_ => ((P0_0_ k_ ∨ P0_1_ k_) ∨ w.heap.size ≤ k_) ∧ some k_ ≠ (.slice (some ad743) x5_2.length co35 : Value).ownBlock ∧ some k_ ≠ (.slice Ao41 t736.length co41 : Value).ownBlock ∧ some k_ ≠ (.slice Ao43 t739.length co43 : Value).ownBlock ∧ k_ ≠ gb724 ∧ k_ ≠ gb725 ∧ k_ ≠ gb728 ∧ k_ ≠ gb742)) (by (with_reducible repeat (first | apply Kd.V_alloc | apply Kd.V_drewN | apply Kd.V_drew)); exact Kd.V_mono HO_725001.out (fun _ hk => ⟨⟨hk.1, ⟨hk.2.1, ⟨hk.2.2.2.1, ⟨hk.2.2.2.2.1, ⟨hk.2.2.2.2.2.1, ⟨hk.2.2.2.2.2.2.1, ⟨hk.2.2.2.2.2.2.2.1, hk.2.2.2.2.2.2.2.2⟩⟩⟩⟩⟩⟩⟩, hk.2.2.1⟩)) hg hat)
          have n3_ := Aside0.mk (blk_grown (g := gb724) (o := .cells #[u725000, u725001] 36 (0, 0)) (by (with_reducible repeat (first | refine blk_drewN ?_ _ | refine blk_drew ?_ | refine blk_alloc ?_ _)); exact BK724.out) hg (Kd.R_ne HO_729001.out BK724.out (by decide)))
          have n4_ := Aside0.mk (blk_grown (g := gb725) (o := .cells #[.int .i64 0, .slice none 0 0] 26 (0, 0)) (by (with_reducible repeat (first | refine blk_drewN ?_ _ | refine blk_drew ?_ | refine blk_alloc ?_ _)); exact BK725.out) hg (Kd.R_ne HO_729001.out BK725.out (by decide)))
          have n5_ := Aside0.mk (blk_grown (g := gb728) (o := .cells #[.int .i64 (l0_0.length : Int), u729001] 26 (0, 0)) (by (with_reducible repeat (first | refine blk_drewN ?_ _ | refine blk_drew ?_ | refine blk_alloc ?_ _)); exact BK728.out) hg (Kd.R_ne HO_729001.out BK728.out (by decide)))
          have n6_ := Aside0.mk (Kd.R_after (ok := (fun k_ => (w.heap.size ≤ k_) ∧ some k_ ≠ (.slice (some ad743) x5_2.length co35 : Value).ownBlock ∧ some k_ ≠ (.slice Ao43 t739.length co43 : Value).ownBlock)) (by (with_reducible repeat (first | apply Kd.R_alloc | apply Kd.R_drewN | apply Kd.R_drew)); exact Kd.R_mono HO738.out (fun _ hk => ⟨⟨hk.1, ⟨hk.2.1, hk.2.2.2⟩⟩, hk.2.2.1⟩)) hg hat)
          have n7_ := Aside0.mk (Kd.R_after (ok := (fun k_ => (w.heap.size ≤ k_) ∧ some k_ ≠ (.slice (some ad743) x5_2.length co35 : Value).ownBlock ∧ some k_ ≠ (.slice Ao41 t736.length co41 : Value).ownBlock)) (by (with_reducible repeat (first | apply Kd.R_alloc | apply Kd.R_drewN | apply Kd.R_drew)); exact Kd.R_mono HO741.out (fun _ hk => ⟨⟨hk.1, ⟨hk.2.1, hk.2.2.2⟩⟩, hk.2.2.1⟩)) hg hat)
          have n8_ := Aside0.mk (blk_grown (g := gb742) (o := .cells #[.slice Ao41 t736.length co41, .slice Ao43 t739.length co43] 36 (0, 0)) (by (with_reducible repeat (first | refine blk_drewN ?_ _ | refine blk_drew ?_ | refine blk_alloc ?_ _)); exact BK742.out) hg (Kd.R_ne HO_729001.out BK742.out (by decide)))
          have n9_ := Aside0.mk (hb)
          have n10_ := Aside0.mk (ho)
          clear HO_5
          clear HO_725000
          clear HO_725001
          clear BK724
          clear BK725
          clear BK728
          clear HO738
          clear HO741
          clear BK742
          clear HB
          clear HO_729001
          have HO_5 := n0_
          have HO_725000 := n1_
          have HO_725001 := n2_
          have BK724 := n3_
          have BK725 := n4_
          have BK728 := n5_
          have HO738 := n6_
          have HO741 := n7_
          have BK742 := n8_
          have HB := n9_
          have HO746 := n10_
          clear n0_ n1_ n2_ n3_ n4_ n5_ n6_ n7_ n8_ n9_ n10_
          clear ho hb hg hat
          obtain ⟨Ao48, co48, eo48⟩ := Kd.V_slice HO_725000.out
          (first | subst eo48 | (injection eo48 with f1_ f2_ f3_; have f4_ := f1_.symm; have f5_ := f3_.symm; clear f1_ f2_ f3_; subst f4_; subst f5_))
          obtain ⟨Ao49, co49, eo49⟩ := Kd.V_slice HO_725001.out
          (first | subst eo49 | (injection eo49 with f1_ f2_ f3_; have f4_ := f1_.symm; have f5_ := f3_.symm; clear f1_ f2_ f3_; subst f4_; subst f5_))
          refine hK.out _ _ ⟨(blk_cell BK728.out 0).trans rfl, (blk_cell BK728.out 1).trans rfl, (blk_cell BK742.out 0).trans rfl, (blk_cell BK742.out 1).trans rfl, (blk_cell BK724.out 0).trans rfl, (blk_cell BK724.out 1).trans rfl, HS6_⟩ (fun hHeld => ?_)
          clear hK K
          refine norm_ (a' := ?_) ?_ ?_
          rotate_left
          ·
           show Act.put _ (some 39) _ = _
           simp only [Act.put, List.setIfInBounds_toArray, List.set_cons_zero, List.set_cons_succ, i64_w, i32_w]
           rfl
          refine pure_ (i := 10) (N := some 43) (v := ?_) (a' := ?_) #[true, true, true, true, true, true, true, true, true, false, true, false, false] rfl rfl (any_of HT_.out (by kernel_rfl)) (fun _ _ _ h => h) (Or.inl ⟨by rfl, ?_⟩) ?_ ?_
          rotate_left
          ·
           intro w'
           go_simp
           with_reducible rfl
          rotate_left
          ·
           simp only [Act.put, List.setIfInBounds_toArray, List.set_cons_zero, List.set_cons_succ, i64_w, i32_w]
           rfl
          refine one_ (i := 9) (N := some 42) #[true, true, true, true, true, true, true, true, true, true, true, false, false] rfl rfl (one_of HT_.out (by kernel_rfl)) (by decide) (fun K hK => ?_)
          refine goes_ Try.func47 (by kernel_rfl) rfl #[.agg #[.slice Ao41 t736.length co41, .slice Ao43 t739.length co43], .agg #[.slice Ao48 x725000_2.length co48, .slice Ao49 x725001_2.length co49]] (by rfl) rfl rfl (by (try simp only [List.map_toArray, List.map_cons, List.map_nil]); first | done | rfl | (simp only [List.length_drop, List.length_take]; rfl)) ?_
          with_reducible refine (impl_thenTurned.calls k2 _ _ t736 _ _ t739 _ _ x725000_2 _ _ x725001_2 t747 t750 _ ?side1 ?side2 ?side3 ?side4 ?side5 ?side6 ?side7 ?side8 A33.out).mono ?_
          (case side1 => repeat (first | exact (Kd.R_reads' HO738.out).2.2 | (with_reducible refine Kd.C_alloc ?_ _) | (with_reducible refine Kd.C_drewN ?_ _) | (with_reducible refine Kd.C_drew ?_)))
          (case side2 => exact (Kd.R_reads' HO738.out).2.1)
          (case side3 => repeat (first | exact (Kd.R_reads' HO741.out).2.2 | (with_reducible refine Kd.C_alloc ?_ _) | (with_reducible refine Kd.C_drewN ?_ _) | (with_reducible refine Kd.C_drew ?_)))
          (case side4 => exact (Kd.R_reads' HO741.out).2.1)
          (case side5 => repeat (first | exact (Kd.V_reads' HO_725000.out).2.2 | (with_reducible refine Kd.C_alloc ?_ _) | (with_reducible refine Kd.C_drewN ?_ _) | (with_reducible refine Kd.C_drew ?_)))
          (case side6 => exact (Kd.V_reads' HO_725000.out).2.1)
          (case side7 => repeat (first | exact (Kd.V_reads' HO_725001.out).2.2 | (with_reducible refine Kd.C_alloc ?_ _) | (with_reducible refine Kd.C_drewN ?_ _) | (with_reducible refine Kd.C_drew ?_)))
          (case side8 => exact (Kd.V_reads' HO_725001.out).2.1)
          rintro e w50 ⟨v748, v751, rfl, ho0, ho1, hb⟩
          have HS6_ := (hb.cell (World.block_lt_of_cell? _ _ (hHeld.2.2.2.2.2.2))).trans (hHeld.2.2.2.2.2.2)
          refine ⟨_, rfl, ?_⟩
          have n0_ := Aside0.mk (Kd.R_mono (Kd.R_told (Kd.R_told (Kd.R_old (by (with_reducible repeat (first | apply Kd.R_alloc | apply Kd.R_drewN | apply Kd.R_drew)); exact HO_5.out) hb) (Kd.R_base ho0)) (Kd.R_base ho1)) (fun _ h_ => h_.1))
          have n1_ := Aside0.mk (Kd.V_mono (Kd.V_told (Kd.V_told (Kd.V_old (by (with_reducible repeat (first | apply Kd.V_alloc | apply Kd.V_drewN | apply Kd.V_drew)); exact HO_725000.out) hb) (Kd.R_base ho0)) (Kd.R_base ho1)) (fun _ h_ => h_.1))
          have n2_ := Aside0.mk (Kd.V_mono (Kd.V_told (Kd.V_told (Kd.V_old (by (with_reducible repeat (first | apply Kd.V_alloc | apply Kd.V_drewN | apply Kd.V_drew)); exact HO_725001.out) hb) (Kd.R_base ho0)) (Kd.R_base ho1)) (fun _ h_ => h_.1))
          have n3_ := Aside0.mk (Kd.R_mono (Kd.R_told (Kd.R_told (Kd.R_old (by (with_reducible repeat (first | apply Kd.R_alloc | apply Kd.R_drewN | apply Kd.R_drew)); exact HO738.out) hb) (Kd.R_base ho0)) (Kd.R_base ho1)) (fun _ h_ => h_.1))
          have n4_ := Aside0.mk (Kd.R_mono (Kd.R_told (Kd.R_told (Kd.R_old (by (with_reducible repeat (first | apply Kd.R_alloc | apply Kd.R_drewN | apply Kd.R_drew)); exact HO741.out) hb) (Kd.R_base ho0)) (Kd.R_base ho1)) (fun _ h_ => h_.1))
          have n5_ := Aside0.mk (Kd.R_mono (Kd.R_told (Kd.R_told (Kd.R_old (by (with_reducible repeat (first | apply Kd.R_alloc | apply Kd.R_drewN | apply Kd.R_drew)); exact HO746.out) hb) (Kd.R_base ho0)) (Kd.R_base ho1)) (fun _ h_ => h_.1))
          have n6_ := Aside0.mk (Kd.R_lower (Kd.R_new' (Kd.R_new' (Kd.R_new' (Kd.R_new' (Kd.R_newM (M := fun k_ => (w.heap.size ≤ k_)) ho0 (below_size (by repeat (first | (with_reducible first | exact HB.out | apply below_alloc | apply pw_below_drewN | apply below_drew1 | refine below_set ?_ GE724.out | refine below_set ?_ GE725.out | refine below_set ?_ GE728.out | refine below_set ?_ GE742.out) | exact HB.out))) (fun k_ h_ => h_)) (Kd.R_lt (by (with_reducible repeat (first | apply Kd.R_alloc | apply Kd.R_drewN | apply Kd.R_drew)); exact HO_5.out))) (Kd.R_lt (by (with_reducible repeat (first | apply Kd.R_alloc | apply Kd.R_drewN | apply Kd.R_drew)); exact HO738.out))) (Kd.R_lt (by (with_reducible repeat (first | apply Kd.R_alloc | apply Kd.R_drewN | apply Kd.R_drew)); exact HO741.out))) (Kd.R_lt (by (with_reducible repeat (first | apply Kd.R_alloc | apply Kd.R_drewN | apply Kd.R_drew)); exact HO746.out))) (below_size (by repeat (first | (with_reducible first | exact HB.out | apply below_alloc | apply pw_below_drewN | apply below_drew1 | refine below_set ?_ GE724.out | refine below_set ?_ GE725.out | refine below_set ?_ GE728.out | refine below_set ?_ GE742.out) | exact HB.out))))
          have n7_ := Aside0.mk (Kd.R_lower (Kd.R_new' (Kd.R_new' (Kd.R_new' (Kd.R_new' (Kd.R_newM (M := fun k_ => (w.heap.size ≤ k_)) ho1 (below_size (by repeat (first | (with_reducible first | exact HB.out | apply below_alloc | apply pw_below_drewN | apply below_drew1 | refine below_set ?_ GE724.out | refine below_set ?_ GE725.out | refine below_set ?_ GE728.out | refine below_set ?_ GE742.out) | exact HB.out))) (fun k_ h_ => h_)) (Kd.R_lt (by (with_reducible repeat (first | apply Kd.R_alloc | apply Kd.R_drewN | apply Kd.R_drew)); exact HO_5.out))) (Kd.R_lt (by (with_reducible repeat (first | apply Kd.R_alloc | apply Kd.R_drewN | apply Kd.R_drew)); exact HO738.out))) (Kd.R_lt (by (with_reducible repeat (first | apply Kd.R_alloc | apply Kd.R_drewN | apply Kd.R_drew)); exact HO741.out))) (Kd.R_lt (by (with_reducible repeat (first | apply Kd.R_alloc | apply Kd.R_drewN | apply Kd.R_drew)); exact HO746.out))) (below_size (by repeat (first | (with_reducible first | exact HB.out | apply below_alloc | apply pw_below_drewN | apply below_drew1 | refine below_set ?_ GE724.out | refine below_set ?_ GE725.out | refine below_set ?_ GE728.out | refine below_set ?_ GE742.out) | exact HB.out))))
          have n8_ := Aside0.mk (blk_below (g := gb724) (o := .cells #[.slice Ao48 x725000_2.length co48, .slice Ao49 x725001_2.length co49] 36 (0, 0)) (by (with_reducible repeat (first | refine blk_drewN ?_ _ | refine blk_drew ?_ | refine blk_alloc ?_ _)); exact BK724.out) hb)
          have n9_ := Aside0.mk (blk_below (g := gb725) (o := .cells #[.int .i64 0, .slice none 0 0] 26 (0, 0)) (by (with_reducible repeat (first | refine blk_drewN ?_ _ | refine blk_drew ?_ | refine blk_alloc ?_ _)); exact BK725.out) hb)
          have n10_ := Aside0.mk (blk_below (g := gb728) (o := .cells #[.int .i64 (l0_0.length : Int), u729001] 26 (0, 0)) (by (with_reducible repeat (first | refine blk_drewN ?_ _ | refine blk_drew ?_ | refine blk_alloc ?_ _)); exact BK728.out) hb)
          have n11_ := Aside0.mk (blk_below (g := gb742) (o := .cells #[.slice Ao41 t736.length co41, .slice Ao43 t739.length co43] 36 (0, 0)) (by (with_reducible repeat (first | refine blk_drewN ?_ _ | refine blk_drew ?_ | refine blk_alloc ?_ _)); exact BK742.out) hb)
          have n12_ := Aside0.mk (below_step (by repeat (first | (with_reducible first | exact HB.out | apply below_alloc | apply pw_below_drewN | apply below_drew1 | refine below_set ?_ GE724.out | refine below_set ?_ GE725.out | refine below_set ?_ GE728.out | refine below_set ?_ GE742.out) | exact HB.out)) hb)
          clear HO_5
          clear HO_725000
          clear HO_725001
          clear HO738
          clear HO741
          clear HO746
          clear BK724
          clear BK725
          clear BK728
          clear BK742
          clear HB
          have HO_5 := n0_
          have HO_725000 := n1_
          have HO_725001 := n2_
          have HO738 := n3_
          have HO741 := n4_
          have HO746 := n5_
          have HO749 := n6_
          have HO752 := n7_
          have BK724 := n8_
          have BK725 := n9_
          have BK728 := n10_
          have BK742 := n11_
          have HB := n12_
          clear n0_ n1_ n2_ n3_ n4_ n5_ n6_ n7_ n8_ n9_ n10_ n11_ n12_
          (try clear hb)
          (try clear hb2)
          (try clear hk)
          (try clear hi)
          (try clear ho0)
          (try clear ho1)
          obtain ⟨Ao51, co51, eo51⟩ := Kd.R_slice HO746.out
          (first | subst eo51 | (injection eo51 with f1_ f2_ f3_; have f4_ := f1_.symm; have f5_ := f3_.symm; clear f1_ f2_ f3_; subst f4_; subst f5_))
          obtain ⟨Ao53, co53, eo53⟩ := Kd.R_slice HO749.out
          (first | subst eo53 | (injection eo53 with f1_ f2_ f3_; have f4_ := f1_.symm; have f5_ := f3_.symm; clear f1_ f2_ f3_; subst f4_; subst f5_))
          obtain ⟨Ao55, co55, eo55⟩ := Kd.R_slice HO752.out
          (first | subst eo55 | (injection eo55 with f1_ f2_ f3_; have f4_ := f1_.symm; have f5_ := f3_.symm; clear f1_ f2_ f3_; subst f4_; subst f5_))
          refine hK.out _ _ ⟨(blk_cell BK728.out 0).trans rfl, (blk_cell BK728.out 1).trans rfl, (blk_cell BK742.out 0).trans rfl, (blk_cell BK742.out 1).trans rfl, (blk_cell BK724.out 0).trans rfl, (blk_cell BK724.out 1).trans rfl, HS6_⟩ (fun hHeld => ?_)
          clear hK K
          refine norm_ (a' := ?_) ?_ ?_
          rotate_left
          ·
           show Act.put _ (some 42) _ = _
           simp only [Act.put, List.setIfInBounds_toArray, List.set_cons_zero, List.set_cons_succ, i64_w, i32_w]
           rfl
          refine last_ (i := 11) (N := none) #[true, true, true, true, true, true, true, true, true, true, true, true, false] rfl rfl (one_of HT_.out (by kernel_rfl)) (by decide) (fun K hK => ?_)
          have hs52 : w50.cell? ⟨gb728, 1, none⟩ = some (u729001) := (blk_cell BK728.out 1).trans rfl
          have hfs52 := blk_frozen BK728.out 1
          have hns52_0 := NB724_728.out
          have hns52_1 := NB725_728.out
          have hns52_3 := NB742_728.out
          have hms52_0 := NB728_724.out
          have hms52_1 := NB728_725.out
          have hms52_3 := NB728_742.out
          refine skip_ (w1 := ?_) (by rfl) rfl ?_ ?_
          rotate_left
          ·
           go_simp
           rfl
          refine hK.out _ _ ?_
          clear hK K
          refine last_ (i := 12) (N := none) #[true, true, true, true, true, true, true, true, true, true, true, true, true] rfl rfl (one_of HT_.out (by kernel_rfl)) (by decide) (fun K hK => ?_)
          have hs54 : w50.cell? ⟨gb724, 0, none⟩ = some (.slice Ao48 x725000_2.length co48) := (blk_cell BK724.out 0).trans rfl
          have hfs54 := blk_frozen BK724.out 0
          have hns54_1 := NB725_724.out
          have hns54_2 := NB728_724.out
          have hns54_3 := NB742_724.out
          have hms54_1 := NB724_725.out
          have hms54_2 := NB724_728.out
          have hms54_3 := NB724_742.out
          have hs56 : w50.cell? ⟨gb724, 1, none⟩ = some (.slice Ao49 x725001_2.length co49) := (blk_cell BK724.out 1).trans rfl
          have hfs56 := blk_frozen BK724.out 1
          have hns56_1 := NB725_724.out
          have hns56_2 := NB728_724.out
          have hns56_3 := NB742_724.out
          have hms56_1 := NB724_725.out
          have hms56_2 := NB724_728.out
          have hms56_3 := NB724_742.out
          refine skip_ (w1 := ?_) (by rfl) rfl ?_ ?_
          rotate_left
          ·
           go_simp
           rfl
          refine hK.out _ _ ?_
          clear hK K
          refine done_ (done_of HT_.out (by kernel_rfl)) ?_
          have hnb57 := NB724_725.out
          have hnc57 := NB725_724.out
          have hnb58 := NB724_728.out
          have hnc58 := NB728_724.out
          have hnb59 := NB724_742.out
          have hnc59 := NB742_724.out
          have hcz60_0 : w50.cell? ⟨gb724, 0, none⟩ = some (.slice Ao48 x725000_2.length co48) := (blk_cell BK724.out 0).trans rfl
          have hcz60_1 : w50.cell? ⟨gb724, 1, none⟩ = some (.slice Ao49 x725001_2.length co49) := (blk_cell BK724.out 1).trans rfl
          have hfz60_0 := blk_frozen BK724.out 0
          have hfz60_1 := blk_frozen BK724.out 1
          try go_wp2_with (first | ((with_reducible refine gate_callee (f := 58) rfl ?_); refine goesL_ (some 26) rfl rfl Try.func58 (by kernel_rfl) rfl #[.agg #[.slice Ao53 t747.length co53, .slice Ao55 t750.length co55]] rfl (by (try simp only [List.map_toArray, List.map_cons, List.map_nil]); first | done | rfl | (simp only [List.length_drop, List.length_take]; rfl)) ?_; (with_reducible refine (impl_poleDescents.calls _ _ t747 _ _ t750 t753 _ ?side1 ?side2 ?side3 ?side4 A34.out).mono ?_); (case side1 => refine (Kd.R_reads' (e := 3) (base := w.heap.size) (ok := fun k_ => ((((((w.heap.size ≤ k_) ∧ some k_ ≠ (.slice Ao55 t750.length co55 : Value).ownBlock) ∧ some k_ ≠ (.slice (some ad743) x5_2.length co35 : Value).ownBlock) ∧ some k_ ≠ (.slice Ao41 t736.length co41 : Value).ownBlock) ∧ some k_ ≠ (.slice Ao43 t739.length co43 : Value).ownBlock) ∧ some k_ ≠ (.slice Ao51 y744.length co51 : Value).ownBlock)) (n := t747.length) (c := co53) ?_).2.2; exact (by (with_reducible repeat (first | apply Kd.R_alloc | apply Kd.R_drewN | apply Kd.R_drew)); exact (Kd.R_mono (Kd.R_mono (Kd.R_far (p := ⟨gb724, 1, none⟩) (Kd.R_far (p := ⟨gb724, 0, none⟩) (Kd.R_far (p := ⟨gb728, 1, none⟩) (Kd.R_types (Kd.R_types HO749.out BK728.out (by decide)) BK724.out (by decide)) (fun _ hk => hk.1.2) (.slice Ao51 y744.length co51)) (fun _ hk => hk.2) (.slice Ao53 t747.length co53)) (fun _ hk => hk.2) (.slice Ao55 t750.length co55)) (fun _ h_ => h_.1)) (fun _ h_ => h_.1)))); (case side2 => exact (Kd.R_reads' HO749.out).2.1); (case side3 => refine (Kd.R_reads' (e := 3) (base := w.heap.size) (ok := fun k_ => ((((((w.heap.size ≤ k_) ∧ some k_ ≠ (.slice Ao53 t747.length co53 : Value).ownBlock) ∧ some k_ ≠ (.slice (some ad743) x5_2.length co35 : Value).ownBlock) ∧ some k_ ≠ (.slice Ao41 t736.length co41 : Value).ownBlock) ∧ some k_ ≠ (.slice Ao43 t739.length co43 : Value).ownBlock) ∧ some k_ ≠ (.slice Ao51 y744.length co51 : Value).ownBlock)) (n := t750.length) (c := co55) ?_).2.2; exact (by (with_reducible repeat (first | apply Kd.R_alloc | apply Kd.R_drewN | apply Kd.R_drew)); exact (Kd.R_mono (Kd.R_mono (Kd.R_far (p := ⟨gb724, 1, none⟩) (Kd.R_far (p := ⟨gb724, 0, none⟩) (Kd.R_far (p := ⟨gb728, 1, none⟩) (Kd.R_types (Kd.R_types HO752.out BK728.out (by decide)) BK724.out (by decide)) (fun _ hk => hk.1.2) (.slice Ao51 y744.length co51)) (fun _ hk => hk.2) (.slice Ao53 t747.length co53)) (fun _ hk => hk.2) (.slice Ao55 t750.length co55)) (fun _ h_ => h_.1)) (fun _ h_ => h_.1)))); (case side4 => exact (Kd.R_reads' HO752.out).2.1); rintro e w61 ⟨v754, rfl, ho0, hb⟩; refine ⟨_, rfl, ?_⟩; have n0_ := Aside0.mk (Kd.R_elder' (by (with_reducible repeat (first | apply Kd.R_alloc | apply Kd.R_drewN | apply Kd.R_drew)); exact (Kd.R_mono (Kd.R_mono (Kd.R_far (p := ⟨gb724, 1, none⟩) (Kd.R_far (p := ⟨gb724, 0, none⟩) (Kd.R_far (p := ⟨gb728, 1, none⟩) (Kd.R_types (Kd.R_types HO_5.out BK728.out (by decide)) BK724.out (by decide)) (fun _ hk => hk.1.2) (.slice Ao51 y744.length co51)) (fun _ hk => hk.2) (.slice Ao53 t747.length co53)) (fun _ hk => hk.2) (.slice Ao55 t750.length co55)) (fun _ h_ => h_.1)) (fun _ h_ => h_.1))) (Kd.R_base ho0) hb); have n1_ := Aside0.mk (Kd.V_elder' (by (with_reducible repeat (first | apply Kd.V_alloc | apply Kd.V_drewN | apply Kd.V_drew)); exact (Kd.V_mono (Kd.V_mono (Kd.V_far (p := ⟨gb724, 1, none⟩) (Kd.V_far (p := ⟨gb724, 0, none⟩) (Kd.V_far (p := ⟨gb728, 1, none⟩) (Kd.V_mono (Kd.V_mono HO_725000.out (fun k_ hk => (⟨hk, hk.1.1.1.2.2.2.2.2.2.1⟩ : _ ∧ k_ ≠ gb728))) (fun k_ hk => (⟨hk, hk.1.1.1.1.2.2.2.2.1⟩ : _ ∧ k_ ≠ gb724))) (fun _ hk => hk.1.2) (.slice Ao51 y744.length co51)) (fun _ hk => hk.2) (.slice Ao53 t747.length co53)) (fun _ hk => hk.2) (.slice Ao55 t750.length co55)) (fun _ h_ => h_.1)) (fun _ h_ => h_.1))) (Kd.R_base ho0) hb); have n2_ := Aside0.mk (Kd.V_elder' (by (with_reducible repeat (first | apply Kd.V_alloc | apply Kd.V_drewN | apply Kd.V_drew)); exact (Kd.V_mono (Kd.V_mono (Kd.V_far (p := ⟨gb724, 1, none⟩) (Kd.V_far (p := ⟨gb724, 0, none⟩) (Kd.V_far (p := ⟨gb728, 1, none⟩) (Kd.V_mono (Kd.V_mono HO_725001.out (fun k_ hk => (⟨hk, hk.1.1.1.2.2.2.2.2.2.1⟩ : _ ∧ k_ ≠ gb728))) (fun k_ hk => (⟨hk, hk.1.1.1.1.2.2.2.2.1⟩ : _ ∧ k_ ≠ gb724))) (fun _ hk => hk.1.2) (.slice Ao51 y744.length co51)) (fun _ hk => hk.2) (.slice Ao53 t747.length co53)) (fun _ hk => hk.2) (.slice Ao55 t750.length co55)) (fun _ h_ => h_.1)) (fun _ h_ => h_.1))) (Kd.R_base ho0) hb); have n3_ := Aside0.mk (Kd.R_elder' (by (with_reducible repeat (first | apply Kd.R_alloc | apply Kd.R_drewN | apply Kd.R_drew)); exact (Kd.R_mono (Kd.R_mono (Kd.R_far (p := ⟨gb724, 1, none⟩) (Kd.R_far (p := ⟨gb724, 0, none⟩) (Kd.R_far (p := ⟨gb728, 1, none⟩) (Kd.R_types (Kd.R_types HO738.out BK728.out (by decide)) BK724.out (by decide)) (fun _ hk => hk.1.2) (.slice Ao51 y744.length co51)) (fun _ hk => hk.2) (.slice Ao53 t747.length co53)) (fun _ hk => hk.2) (.slice Ao55 t750.length co55)) (fun _ h_ => h_.1)) (fun _ h_ => h_.1))) (Kd.R_base ho0) hb); have n4_ := Aside0.mk (Kd.R_elder' (by (with_reducible repeat (first | apply Kd.R_alloc | apply Kd.R_drewN | apply Kd.R_drew)); exact (Kd.R_mono (Kd.R_mono (Kd.R_far (p := ⟨gb724, 1, none⟩) (Kd.R_far (p := ⟨gb724, 0, none⟩) (Kd.R_far (p := ⟨gb728, 1, none⟩) (Kd.R_types (Kd.R_types HO741.out BK728.out (by decide)) BK724.out (by decide)) (fun _ hk => hk.1.2) (.slice Ao51 y744.length co51)) (fun _ hk => hk.2) (.slice Ao53 t747.length co53)) (fun _ hk => hk.2) (.slice Ao55 t750.length co55)) (fun _ h_ => h_.1)) (fun _ h_ => h_.1))) (Kd.R_base ho0) hb); have n5_ := Aside0.mk (Kd.R_elder' (by (with_reducible repeat (first | apply Kd.R_alloc | apply Kd.R_drewN | apply Kd.R_drew)); exact (Kd.R_mono (Kd.R_mono (Kd.R_far (p := ⟨gb724, 1, none⟩) (Kd.R_far (p := ⟨gb724, 0, none⟩) (Kd.R_far (p := ⟨gb728, 1, none⟩) (Kd.R_types (Kd.R_types HO746.out BK728.out (by decide)) BK724.out (by decide)) (fun _ hk => hk.1.2) (.slice Ao51 y744.length co51)) (fun _ hk => hk.2) (.slice Ao53 t747.length co53)) (fun _ hk => hk.2) (.slice Ao55 t750.length co55)) (fun _ h_ => h_.1)) (fun _ h_ => h_.1))) (Kd.R_base ho0) hb); have n6_ := Aside0.mk (Kd.R_elder' (by (with_reducible repeat (first | apply Kd.R_alloc | apply Kd.R_drewN | apply Kd.R_drew)); exact (Kd.R_mono (Kd.R_mono (Kd.R_far (p := ⟨gb724, 1, none⟩) (Kd.R_far (p := ⟨gb724, 0, none⟩) (Kd.R_far (p := ⟨gb728, 1, none⟩) (Kd.R_types (Kd.R_types HO749.out BK728.out (by decide)) BK724.out (by decide)) (fun _ hk => hk.1.2) (.slice Ao51 y744.length co51)) (fun _ hk => hk.2) (.slice Ao53 t747.length co53)) (fun _ hk => hk.2) (.slice Ao55 t750.length co55)) (fun _ h_ => h_.1)) (fun _ h_ => h_.1))) (Kd.R_base ho0) hb); have n7_ := Aside0.mk (Kd.R_elder' (by (with_reducible repeat (first | apply Kd.R_alloc | apply Kd.R_drewN | apply Kd.R_drew)); exact (Kd.R_mono (Kd.R_mono (Kd.R_far (p := ⟨gb724, 1, none⟩) (Kd.R_far (p := ⟨gb724, 0, none⟩) (Kd.R_far (p := ⟨gb728, 1, none⟩) (Kd.R_types (Kd.R_types HO752.out BK728.out (by decide)) BK724.out (by decide)) (fun _ hk => hk.1.2) (.slice Ao51 y744.length co51)) (fun _ hk => hk.2) (.slice Ao53 t747.length co53)) (fun _ hk => hk.2) (.slice Ao55 t750.length co55)) (fun _ h_ => h_.1)) (fun _ h_ => h_.1))) (Kd.R_base ho0) hb); have n8_ := Aside0.mk (Kd.R_lower (Kd.R_new' (Kd.R_new' (Kd.R_new' (Kd.R_new' (Kd.R_new' (Kd.R_new' (Kd.R_newM (M := fun k_ => (w.heap.size ≤ k_)) ho0 (below_size (by repeat (first | (with_reducible first | exact HB.out | apply below_alloc | apply pw_below_drewN | apply below_drew1 | refine below_set ?_ GE724.out | refine below_set ?_ GE725.out | refine below_set ?_ GE728.out | refine below_set ?_ GE742.out) | exact HB.out))) (fun k_ h_ => h_)) (Kd.R_lt (by (with_reducible repeat (first | apply Kd.R_alloc | apply Kd.R_drewN | apply Kd.R_drew)); exact (Kd.R_mono (Kd.R_mono (Kd.R_far (p := ⟨gb724, 1, none⟩) (Kd.R_far (p := ⟨gb724, 0, none⟩) (Kd.R_far (p := ⟨gb728, 1, none⟩) (Kd.R_types (Kd.R_types HO_5.out BK728.out (by decide)) BK724.out (by decide)) (fun _ hk => hk.1.2) (.slice Ao51 y744.length co51)) (fun _ hk => hk.2) (.slice Ao53 t747.length co53)) (fun _ hk => hk.2) (.slice Ao55 t750.length co55)) (fun _ h_ => h_.1)) (fun _ h_ => h_.1))))) (Kd.R_lt (by (with_reducible repeat (first | apply Kd.R_alloc | apply Kd.R_drewN | apply Kd.R_drew)); exact (Kd.R_mono (Kd.R_mono (Kd.R_far (p := ⟨gb724, 1, none⟩) (Kd.R_far (p := ⟨gb724, 0, none⟩) (Kd.R_far (p := ⟨gb728, 1, none⟩) (Kd.R_types (Kd.R_types HO738.out BK728.out (by decide)) BK724.out (by decide)) (fun _ hk => hk.1.2) (.slice Ao51 y744.length co51)) (fun _ hk => hk.2) (.slice Ao53 t747.length co53)) (fun _ hk => hk.2) (.slice Ao55 t750.length co55)) (fun _ h_ => h_.1)) (fun _ h_ => h_.1))))) (Kd.R_lt (by (with_reducible repeat (first | apply Kd.R_alloc | apply Kd.R_drewN | apply Kd.R_drew)); exact (Kd.R_mono (Kd.R_mono (Kd.R_far (p := ⟨gb724, 1, none⟩) (Kd.R_far (p := ⟨gb724, 0, none⟩) (Kd.R_far (p := ⟨gb728, 1, none⟩) (Kd.R_types (Kd.R_types HO741.out BK728.out (by decide)) BK724.out (by decide)) (fun _ hk => hk.1.2) (.slice Ao51 y744.length co51)) (fun _ hk => hk.2) (.slice Ao53 t747.length co53)) (fun _ hk => hk.2) (.slice Ao55 t750.length co55)) (fun _ h_ => h_.1)) (fun _ h_ => h_.1))))) (Kd.R_lt (by (with_reducible repeat (first | apply Kd.R_alloc | apply Kd.R_drewN | apply Kd.R_drew)); exact (Kd.R_mono (Kd.R_mono (Kd.R_far (p := ⟨gb724, 1, none⟩) (Kd.R_far (p := ⟨gb724, 0, none⟩) (Kd.R_far (p := ⟨gb728, 1, none⟩) (Kd.R_types (Kd.R_types HO746.out BK728.out (by decide)) BK724.out (by decide)) (fun _ hk => hk.1.2) (.slice Ao51 y744.length co51)) (fun _ hk => hk.2) (.slice Ao53 t747.length co53)) (fun _ hk => hk.2) (.slice Ao55 t750.length co55)) (fun _ h_ => h_.1)) (fun _ h_ => h_.1))))) (Kd.R_lt (by (with_reducible repeat (first | apply Kd.R_alloc | apply Kd.R_drewN | apply Kd.R_drew)); exact (Kd.R_mono (Kd.R_mono (Kd.R_far (p := ⟨gb724, 1, none⟩) (Kd.R_far (p := ⟨gb724, 0, none⟩) (Kd.R_far (p := ⟨gb728, 1, none⟩) (Kd.R_types (Kd.R_types HO749.out BK728.out (by decide)) BK724.out (by decide)) (fun _ hk => hk.1.2) (.slice Ao51 y744.length co51)) (fun _ hk => hk.2) (.slice Ao53 t747.length co53)) (fun _ hk => hk.2) (.slice Ao55 t750.length co55)) (fun _ h_ => h_.1)) (fun _ h_ => h_.1))))) (Kd.R_lt (by (with_reducible repeat (first | apply Kd.R_alloc | apply Kd.R_drewN | apply Kd.R_drew)); exact (Kd.R_mono (Kd.R_mono (Kd.R_far (p := ⟨gb724, 1, none⟩) (Kd.R_far (p := ⟨gb724, 0, none⟩) (Kd.R_far (p := ⟨gb728, 1, none⟩) (Kd.R_types (Kd.R_types HO752.out BK728.out (by decide)) BK724.out (by decide)) (fun _ hk => hk.1.2) (.slice Ao51 y744.length co51)) (fun _ hk => hk.2) (.slice Ao53 t747.length co53)) (fun _ hk => hk.2) (.slice Ao55 t750.length co55)) (fun _ h_ => h_.1)) (fun _ h_ => h_.1))))) (below_size (by repeat (first | (with_reducible first | exact HB.out | apply below_alloc | apply pw_below_drewN | apply below_drew1 | refine below_set ?_ GE724.out | refine below_set ?_ GE725.out | refine below_set ?_ GE728.out | refine below_set ?_ GE742.out) | exact HB.out)))); have n9_ := Aside0.mk (blk_below (g := gb724) (o := .cells #[.slice Ao53 t747.length co53, .slice Ao55 t750.length co55] 36 (0, 0)) (by (with_reducible repeat (first | refine blk_drewN ?_ _ | refine blk_drew ?_ | refine blk_alloc ?_ _)); refine blk_put (cs := #[.slice Ao53 t747.length co53, .slice Ao49 x725001_2.length co49]) ?_ 1 _ rfl; (with_reducible repeat (first | refine blk_drewN ?_ _ | refine blk_drew ?_ | refine blk_alloc ?_ _)); refine blk_put (cs := #[.slice Ao48 x725000_2.length co48, .slice Ao49 x725001_2.length co49]) ?_ 0 _ rfl; (with_reducible repeat (first | refine blk_drewN ?_ _ | refine blk_drew ?_ | refine blk_alloc ?_ _)); refine blk_far ?_ NB724_728.out _; (with_reducible repeat (first | refine blk_drewN ?_ _ | refine blk_drew ?_ | refine blk_alloc ?_ _)); exact BK724.out) hb); have n10_ := Aside0.mk (blk_below (g := gb725) (o := .cells #[.int .i64 0, .slice none 0 0] 26 (0, 0)) (by (with_reducible repeat (first | refine blk_drewN ?_ _ | refine blk_drew ?_ | refine blk_alloc ?_ _)); refine blk_far ?_ NB725_724.out _; (with_reducible repeat (first | refine blk_drewN ?_ _ | refine blk_drew ?_ | refine blk_alloc ?_ _)); refine blk_far ?_ NB725_724.out _; (with_reducible repeat (first | refine blk_drewN ?_ _ | refine blk_drew ?_ | refine blk_alloc ?_ _)); refine blk_far ?_ NB725_728.out _; (with_reducible repeat (first | refine blk_drewN ?_ _ | refine blk_drew ?_ | refine blk_alloc ?_ _)); exact BK725.out) hb); have n11_ := Aside0.mk (blk_below (g := gb728) (o := .cells #[.int .i64 (l0_0.length : Int), .slice Ao51 y744.length co51] 26 (0, 0)) (by (with_reducible repeat (first | refine blk_drewN ?_ _ | refine blk_drew ?_ | refine blk_alloc ?_ _)); refine blk_far ?_ NB728_724.out _; (with_reducible repeat (first | refine blk_drewN ?_ _ | refine blk_drew ?_ | refine blk_alloc ?_ _)); refine blk_far ?_ NB728_724.out _; (with_reducible repeat (first | refine blk_drewN ?_ _ | refine blk_drew ?_ | refine blk_alloc ?_ _)); refine blk_put (cs := #[.int .i64 (l0_0.length : Int), u729001]) ?_ 1 _ rfl; (with_reducible repeat (first | refine blk_drewN ?_ _ | refine blk_drew ?_ | refine blk_alloc ?_ _)); exact BK728.out) hb); have n12_ := Aside0.mk (blk_below (g := gb742) (o := .cells #[.slice Ao41 t736.length co41, .slice Ao43 t739.length co43] 36 (0, 0)) (by (with_reducible repeat (first | refine blk_drewN ?_ _ | refine blk_drew ?_ | refine blk_alloc ?_ _)); refine blk_far ?_ NB742_724.out _; (with_reducible repeat (first | refine blk_drewN ?_ _ | refine blk_drew ?_ | refine blk_alloc ?_ _)); refine blk_far ?_ NB742_724.out _; (with_reducible repeat (first | refine blk_drewN ?_ _ | refine blk_drew ?_ | refine blk_alloc ?_ _)); refine blk_far ?_ NB742_728.out _; (with_reducible repeat (first | refine blk_drewN ?_ _ | refine blk_drew ?_ | refine blk_alloc ?_ _)); exact BK742.out) hb); have n13_ := Aside0.mk (below_step (by repeat (first | (with_reducible first | exact HB.out | apply below_alloc | apply pw_below_drewN | apply below_drew1 | refine below_set ?_ GE724.out | refine below_set ?_ GE725.out | refine below_set ?_ GE728.out | refine below_set ?_ GE742.out) | exact HB.out)) hb); clear HO_5; clear HO_725000; clear HO_725001; clear HO738; clear HO741; clear HO746; clear HO749; clear HO752; clear BK724; clear BK725; clear BK728; clear BK742; clear HB; have HO_5 := n0_; have HO_725000 := n1_; have HO_725001 := n2_; have HO738 := n3_; have HO741 := n4_; have HO746 := n5_; have HO749 := n6_; have HO752 := n7_; have HO755 := n8_; have BK724 := n9_; have BK725 := n10_; have BK728 := n11_; have BK742 := n12_; have HB := n13_; clear n0_ n1_ n2_ n3_ n4_ n5_ n6_ n7_ n8_ n9_ n10_ n11_ n12_ n13_; (try clear hb); (try clear hb2); (try clear hk); (try clear hi); (try clear ho0)))
          go_roundg k2
          case measure => have := HJ1.out; have := HK2.out; omega
          case rel => exact ⟨(t753), (t747), (t750), (y744), (.slice Ao53 t747.length co53), (.slice Ao55 t750.length co55), (.slice Ao51 y744.length co51), H', ⟨by have := HJ1.out; have := HK2.out; omega⟩, ⟨by (with_reducible repeat (first | apply Kd.R_alloc | apply Kd.R_drewN | apply Kd.R_drew)); exact Kd.R_mono HO755.out (fun _ hk => ⟨hk.1.1.1.1.1.1.1, hk.1.1.2⟩)⟩, ⟨Kd.V_mono (Kd.R_V (by (with_reducible repeat (first | apply Kd.R_alloc | apply Kd.R_drewN | apply Kd.R_drew)); exact (Kd.R_types (Kd.R_types (Kd.R_types HO749.out BK724.out (by decide)) BK725.out (by decide)) BK728.out (by decide)))) (fun k_ hk => by first | exact ⟨.inr (hk.1.1.1.1.1.1.1.1.1), ⟨hk.1.1.1.2, ⟨hk.1.1.1.1.2, ⟨hk.1.1.2, ⟨hk.1.2, hk.2⟩⟩⟩⟩⟩ | exact .inr ⟨hk.1.1.1.1.1.1.1.1.1, ⟨hk.1.1.1.2, ⟨hk.1.1.1.1.2, ⟨hk.1.1.2, ⟨hk.1.2, hk.2⟩⟩⟩⟩⟩)⟩, ⟨Kd.V_mono (Kd.R_V (by (with_reducible repeat (first | apply Kd.R_alloc | apply Kd.R_drewN | apply Kd.R_drew)); exact (Kd.R_types (Kd.R_types (Kd.R_types HO752.out BK724.out (by decide)) BK725.out (by decide)) BK728.out (by decide)))) (fun k_ hk => by first | exact ⟨.inr (hk.1.1.1.1.1.1.1.1.1), ⟨hk.1.1.1.2, ⟨hk.1.1.1.1.2, ⟨hk.1.1.2, ⟨hk.1.2, hk.2⟩⟩⟩⟩⟩ | exact .inr ⟨hk.1.1.1.1.1.1.1.1.1, ⟨hk.1.1.1.2, ⟨hk.1.1.1.1.2, ⟨hk.1.1.2, ⟨hk.1.2, hk.2⟩⟩⟩⟩⟩)⟩, ⟨by (with_reducible repeat (first | apply Kd.R_alloc | apply Kd.R_drewN | apply Kd.R_drew)); exact Kd.R_mono HO746.out (fun _ hk => ⟨hk.1.1.1.1, hk.2⟩)⟩, ⟨by (with_reducible repeat (first | refine blk_drewN ?_ _ | refine blk_drew ?_ | refine blk_alloc ?_ _)); exact BK724.out⟩, ⟨by (with_reducible repeat (first | refine blk_drewN ?_ _ | refine blk_drew ?_ | refine blk_alloc ?_ _)); exact BK725.out⟩, ⟨by (with_reducible repeat (first | refine blk_drewN ?_ _ | refine blk_drew ?_ | refine blk_alloc ?_ _)); exact BK728.out⟩, ⟨by repeat (first | (with_reducible first | exact HB.out | apply below_alloc | apply pw_below_drewN | apply below_drew1 | refine below_set ?_ GE724.out | refine below_set ?_ GE725.out | refine below_set ?_ GE728.out | refine below_set ?_ GE742.out) | exact HB.out)⟩⟩
         ·
          rw [if_neg c32] at H
          exact absurd H (by simp)
        ·
         rw [if_neg c31] at H
         exact absurd H (by simp)
       ·
        rw [if_neg c29] at H
        exact absurd H (by simp)
      ·
       rw [if_neg c28] at H
       have c28b0 : decide (0 < (x5_2.length : Int)) = false := decide_eq_false c28
       have c28b1 : decide (0 < x5_2.length) = false := decide_eq_false (by omega)
       clear c28
       simp only [Option.some.injEq, Prod.mk.injEq] at H
       obtain ⟨rfl, rfl, rfl⟩ := H
       obtain ⟨Ao62, co62, eo62⟩ := Kd.R_slice HO_5.out
       subst eo62
       have hnb63 := NB728_724.out
       have hnc63 := NB724_728.out
       have hnb64 := NB728_725.out
       have hnc64 := NB725_728.out
       have hcz65_0 : wr.cell? ⟨gb728, 0, none⟩ = some (.int .i64 (l0_0.length : Int)) := (blk_cell BK728.out 0).trans rfl
       have hcz65_1 : wr.cell? ⟨gb728, 1, none⟩ = some (u729001) := (blk_cell BK728.out 1).trans rfl
       have hfz65_0 := blk_frozen BK728.out 0
       have hfz65_1 := blk_frozen BK728.out 1
       have hnb66 := NB725_724.out
       have hnc66 := NB724_725.out
       have hcz67_0 : wr.cell? ⟨gb725, 0, none⟩ = some (.int .i64 0) := (blk_cell BK725.out 0).trans rfl
       have hcz67_1 : wr.cell? ⟨gb725, 1, none⟩ = some (.slice none 0 0) := (blk_cell BK725.out 1).trans rfl
       have hfz67_0 := blk_frozen BK725.out 0
       have hfz67_1 := blk_frozen BK725.out 1
       obtain ⟨Ao68, co68, eo68⟩ := Kd.R_slice HO_729001.out
       subst eo68
       go_wp2
       refine bodyPost_ret (results_ct rfl _ _ gb725 26 #[.int .i64 (l0_0.length : Int), .slice Ao68 x729001_2.length co68] (0, 0) _ rfl (by (with_reducible repeat (first | refine blk_drewN ?_ _ | refine blk_drew ?_ | refine blk_alloc ?_ _)); refine blk_put (cs := #[.int .i64 (l0_0.length : Int), .slice none 0 0]) ?_ 1 _ rfl; (with_reducible repeat (first | refine blk_drewN ?_ _ | refine blk_drew ?_ | refine blk_alloc ?_ _)); refine blk_put (cs := #[.int .i64 0, .slice none 0 0]) ?_ 0 _ rfl; (with_reducible repeat (first | refine blk_drewN ?_ _ | refine blk_drew ?_ | refine blk_alloc ?_ _)); exact BK725.out) Try.underlying26 rfl (by kernel_rfl)) rfl ?_
       exact ⟨_, by first | rfl | (simp [errW_none, errW_some] <;> rfl) | (simp [*, errW_none, errW_some] <;> rfl), by (with_reducible repeat (first | apply Kd.R_alloc | apply Kd.R_drewN | apply Kd.R_drew)); exact Kd.R_mono (Kd.R_far (p := ⟨gb725, 1, none⟩) (Kd.R_far (p := ⟨gb725, 0, none⟩) (Kd.R_types HO_729001.out BK725.out (by decide)) (fun _ hk => hk.2) (.int .i64 (l0_0.length : Int))) (fun _ hk => hk.2) (.slice Ao68 x729001_2.length co68)) (fun _ hk => hk.1.1), by repeat (first | (with_reducible first | exact HB.out | apply below_alloc | apply pw_below_drewN | apply below_drew1 | refine below_set ?_ GE724.out | refine below_set ?_ GE725.out | refine below_set ?_ GE728.out) | exact HB.out)⟩

end Go.Proofs.Ytgjamcfnpofbhaa.Q
