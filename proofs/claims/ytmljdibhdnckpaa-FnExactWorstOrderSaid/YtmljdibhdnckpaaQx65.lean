/- Each function below comes to the Lean function beside it (theorems '.calls'); no condition beyond each theorem's own. Written by our program oprint.py over the kit's print. -/
import Derived.Test.YtmljdibhdnckpaaQx0
import Derived.Test.YtmljdibhdnckpaaQx4
import Derived.Test.YtmljdibhdnckpaaQx15
import Derived.Test.YtmljdibhdnckpaaQx38
import Derived.Test.YtmljdibhdnckpaaQx64
namespace Go.Proofs.Ytmljdibhdnckpaa.Q
open Go.RowKit Go.Proofs.YtmljdibhdnckpaaW.PrintWords Go.Proofs.YtmljdibhdnckpaaW.PrintLast Go.Proofs.YtmljdibhdnckpaaW.PrintMore
attribute [local go_sem] max2_int min2_int max_two min_two max_three min_three max_four min_four   -- for this text's walks alone
set_option linter.unusedVariables false
set_option linter.unusedSimpArgs false

/-! ### laws_FnExactWorstOrder: function 15 -/
mutual
def laws_FnExactWorstOrder.j0 : Nat → List Int → Int → Bool → List Int → Int → Bool → Bool → Int → List Int → Int → List Int → Option (Bool)
  | 0, _, _, _, _, _, _, _, _, _, _, _ => none
  | k + 1, x4, x5, x6, x8, x9, x10, x50, x808000, x808001, x823000, x823001 => if x50 = true then (none) else ((laws_toLadder.f k x808000 x808001).bind fun bt829 => ((laws_eqLadder.f k x823000 x823001 bt829.1 bt829.2).bind fun t833 => (if t833 = true then ((laws_markLadder.f k x823000 x823001 1).bind fun bt834 => (if bt834.1 < 0 then (none) else ((laws_eqIntS.f k x8 x4).bind fun t836 => (if t836 = true then (if x9 = x5 then (laws_FnExactWorstOrder.j1 k x4 x5 x6 x8 (x10 != x6) x808000 x808001) else (laws_FnExactWorstOrder.j1 k x4 x5 x6 x8 true x808000 x808001)) else (none))))) else (none))))
def laws_FnExactWorstOrder.j1 : Nat → List Int → Int → Bool → List Int → Bool → Int → List Int → Option (Bool)
  | 0, _, _, _, _, _, _, _ => none
  | k + 1, x4, x5, x6, x8, x76, x808000, x808001 => if x76 = true then (none) else ((laws_markIntS.f k x8 1).bind fun bt837 => ((laws_heldIntS.f k bt837.2 1).bind fun t839 => (if t839 < 0 then (none) else (if t839 = bt837.1 then ((laws_toLadder.f k x808000 x808001).bind fun bt840 => ((impl_WorstOrder.f k bt840.1 bt840.2).bind fun bt844 => ((laws_eqIntS.f k bt844.1 x4).bind fun t849 => (if t849 = true then (if bt844.2.1 = x5 then (laws_FnExactWorstOrder.j2 k bt837.2 bt837.1 (bt844.2.2 != x6)) else (laws_FnExactWorstOrder.j2 k bt837.2 bt837.1 true)) else (none))))) else (none)))))
def laws_FnExactWorstOrder.j2 : Nat → List Int → Int → Bool → Option (Bool)
  | 0, _, _, _ => none
  | k + 1, x8, x12, x108 => if x108 = true then (none) else ((laws_heldIntS.f k x8 1).bind fun t850 => (if t850 < 0 then (none) else (if t850 = x12 then (some true) else (none))))
end
def laws_FnExactWorstOrder.f (k : Nat) (a0_0 : Int) (l0_1 : List Int) : Option (Bool) := (laws_szLadder.f a0_0 l0_1 1048576).bind fun t808 => (if t808 < 0 then (some true) else ((laws_toLadder.f k a0_0 l0_1).bind fun bt809 => ((spec_WorstOrder.f k bt809.1 bt809.2).bind fun bt813 => ((laws_toLadder.f k a0_0 l0_1).bind fun bt818 => ((impl_WorstOrder.f k bt818.1 bt818.2).bind fun bt823 => ((laws_eqIntS.f k bt823.1 bt813.1).bind fun t828 => (if t828 = true then (if bt823.2.1 = bt813.2.1 then (laws_FnExactWorstOrder.j0 k bt813.1 bt813.2.1 bt813.2.2 bt823.1 bt823.2.1 bt823.2.2 (bt823.2.2 != bt813.2.2) a0_0 l0_1 bt818.1 bt818.2) else (laws_FnExactWorstOrder.j0 k bt813.1 bt813.2.1 bt813.2.2 bt823.1 bt823.2.1 bt823.2.2 true a0_0 l0_1 bt818.1 bt818.2)) else (none))))))))
theorem laws_FnExactWorstOrder.mono_l : ∀ k, (∀ y0 y1 y2 y3 y4 y5 y6 y7 y8 y9 y10, LeO (laws_FnExactWorstOrder.j0 k y0 y1 y2 y3 y4 y5 y6 y7 y8 y9 y10) (laws_FnExactWorstOrder.j0 (k + 1) y0 y1 y2 y3 y4 y5 y6 y7 y8 y9 y10)) ∧ (∀ y0 y1 y2 y3 y4 y5 y6, LeO (laws_FnExactWorstOrder.j1 k y0 y1 y2 y3 y4 y5 y6) (laws_FnExactWorstOrder.j1 (k + 1) y0 y1 y2 y3 y4 y5 y6)) ∧ (∀ y0 y1 y2, LeO (laws_FnExactWorstOrder.j2 k y0 y1 y2) (laws_FnExactWorstOrder.j2 (k + 1) y0 y1 y2))
  | 0 => ⟨fun _ _ _ _ _ _ _ _ _ _ _ r h => by simp [laws_FnExactWorstOrder.j0] at h, fun _ _ _ _ _ _ _ r h => by simp [laws_FnExactWorstOrder.j1] at h, fun _ _ _ r h => by simp [laws_FnExactWorstOrder.j2] at h⟩
  | k + 1 => by
    obtain ⟨ih0, ih1, ih2⟩ := laws_FnExactWorstOrder.mono_l k
    refine ⟨?_, ?_, ?_⟩
    · intro y0 y1 y2 y3 y4 y5 y6 y7 y8 y9 y10
      unfold laws_FnExactWorstOrder.j0
      repeat' first
      | (with_reducible exact ih0 _ _ _ _ _ _ _ _ _ _ _)
      | (with_reducible exact ih1 _ _ _ _ _ _ _)
      | (with_reducible exact ih2 _ _ _)
      | (with_reducible exact impl_WorstOrder.mono _ _ _)
      | (with_reducible exact laws_eqIntS.mono _ _ _)
      | (with_reducible exact laws_eqLadder.mono _ _ _ _ _)
      | (with_reducible exact laws_heldIntS.mono _ _ _)
      | (with_reducible exact laws_markIntS.mono _ _ _)
      | (with_reducible exact laws_markLadder.mono _ _ _ _)
      | (with_reducible exact laws_toLadder.mono _ _ _)
      | (with_reducible exact spec_WorstOrder.mono _ _ _)
      | (with_reducible exact LeO.refl _)
      | (with_reducible exact LeO.none _)
      | (with_reducible refine LeO.ite ?_ ?_)
      | (with_reducible refine LeO.bind ?_ (fun _ => ?_))
      | exact ih0 _ _ _ _ _ _ _ _ _ _ _
      | exact ih1 _ _ _ _ _ _ _
      | exact ih2 _ _ _
      | exact impl_WorstOrder.mono _ _ _
      | exact laws_eqIntS.mono _ _ _
      | exact laws_eqLadder.mono _ _ _ _ _
      | exact laws_heldIntS.mono _ _ _
      | exact laws_markIntS.mono _ _ _
      | exact laws_markLadder.mono _ _ _ _
      | exact laws_toLadder.mono _ _ _
      | exact spec_WorstOrder.mono _ _ _
      | exact LeO.none _
      | refine LeO.ite ?_ ?_
      | refine LeO.bind ?_ (fun _ => ?_)
    · intro y0 y1 y2 y3 y4 y5 y6
      unfold laws_FnExactWorstOrder.j1
      repeat' first
      | (with_reducible exact ih0 _ _ _ _ _ _ _ _ _ _ _)
      | (with_reducible exact ih1 _ _ _ _ _ _ _)
      | (with_reducible exact ih2 _ _ _)
      | (with_reducible exact impl_WorstOrder.mono _ _ _)
      | (with_reducible exact laws_eqIntS.mono _ _ _)
      | (with_reducible exact laws_eqLadder.mono _ _ _ _ _)
      | (with_reducible exact laws_heldIntS.mono _ _ _)
      | (with_reducible exact laws_markIntS.mono _ _ _)
      | (with_reducible exact laws_markLadder.mono _ _ _ _)
      | (with_reducible exact laws_toLadder.mono _ _ _)
      | (with_reducible exact spec_WorstOrder.mono _ _ _)
      | (with_reducible exact LeO.refl _)
      | (with_reducible exact LeO.none _)
      | (with_reducible refine LeO.ite ?_ ?_)
      | (with_reducible refine LeO.bind ?_ (fun _ => ?_))
      | exact ih0 _ _ _ _ _ _ _ _ _ _ _
      | exact ih1 _ _ _ _ _ _ _
      | exact ih2 _ _ _
      | exact impl_WorstOrder.mono _ _ _
      | exact laws_eqIntS.mono _ _ _
      | exact laws_eqLadder.mono _ _ _ _ _
      | exact laws_heldIntS.mono _ _ _
      | exact laws_markIntS.mono _ _ _
      | exact laws_markLadder.mono _ _ _ _
      | exact laws_toLadder.mono _ _ _
      | exact spec_WorstOrder.mono _ _ _
      | exact LeO.none _
      | refine LeO.ite ?_ ?_
      | refine LeO.bind ?_ (fun _ => ?_)
    · intro y0 y1 y2
      unfold laws_FnExactWorstOrder.j2
      repeat' first
      | (with_reducible exact ih0 _ _ _ _ _ _ _ _ _ _ _)
      | (with_reducible exact ih1 _ _ _ _ _ _ _)
      | (with_reducible exact ih2 _ _ _)
      | (with_reducible exact impl_WorstOrder.mono _ _ _)
      | (with_reducible exact laws_eqIntS.mono _ _ _)
      | (with_reducible exact laws_eqLadder.mono _ _ _ _ _)
      | (with_reducible exact laws_heldIntS.mono _ _ _)
      | (with_reducible exact laws_markIntS.mono _ _ _)
      | (with_reducible exact laws_markLadder.mono _ _ _ _)
      | (with_reducible exact laws_toLadder.mono _ _ _)
      | (with_reducible exact spec_WorstOrder.mono _ _ _)
      | (with_reducible exact LeO.refl _)
      | (with_reducible exact LeO.none _)
      | (with_reducible refine LeO.ite ?_ ?_)
      | (with_reducible refine LeO.bind ?_ (fun _ => ?_))
      | exact ih0 _ _ _ _ _ _ _ _ _ _ _
      | exact ih1 _ _ _ _ _ _ _
      | exact ih2 _ _ _
      | exact impl_WorstOrder.mono _ _ _
      | exact laws_eqIntS.mono _ _ _
      | exact laws_eqLadder.mono _ _ _ _ _
      | exact laws_heldIntS.mono _ _ _
      | exact laws_markIntS.mono _ _ _
      | exact laws_markLadder.mono _ _ _ _
      | exact laws_toLadder.mono _ _ _
      | exact spec_WorstOrder.mono _ _ _
      | exact LeO.none _
      | refine LeO.ite ?_ ?_
      | refine LeO.bind ?_ (fun _ => ?_)
theorem laws_FnExactWorstOrder.mono : ∀ a0 a1 k, LeO (laws_FnExactWorstOrder.f k a0 a1) (laws_FnExactWorstOrder.f (k + 1) a0 a1) := by
  intro a0 a1 k
  obtain ⟨ih0, ih1, ih2⟩ := laws_FnExactWorstOrder.mono_l k
  unfold laws_FnExactWorstOrder.f
  repeat' first
      | (with_reducible exact ih0 _ _ _ _ _ _ _ _ _ _ _)
      | (with_reducible exact ih1 _ _ _ _ _ _ _)
      | (with_reducible exact ih2 _ _ _)
      | (with_reducible exact impl_WorstOrder.mono _ _ _)
      | (with_reducible exact laws_eqIntS.mono _ _ _)
      | (with_reducible exact laws_eqLadder.mono _ _ _ _ _)
      | (with_reducible exact laws_heldIntS.mono _ _ _)
      | (with_reducible exact laws_markIntS.mono _ _ _)
      | (with_reducible exact laws_markLadder.mono _ _ _ _)
      | (with_reducible exact laws_toLadder.mono _ _ _)
      | (with_reducible exact spec_WorstOrder.mono _ _ _)
      | (with_reducible exact LeO.refl _)
      | (with_reducible exact LeO.none _)
      | (with_reducible refine LeO.ite ?_ ?_)
      | (with_reducible refine LeO.bind ?_ (fun _ => ?_))
      | exact ih0 _ _ _ _ _ _ _ _ _ _ _
      | exact ih1 _ _ _ _ _ _ _
      | exact ih2 _ _ _
      | exact impl_WorstOrder.mono _ _ _
      | exact laws_eqIntS.mono _ _ _
      | exact laws_eqLadder.mono _ _ _ _ _
      | exact laws_heldIntS.mono _ _ _
      | exact laws_markIntS.mono _ _ _
      | exact laws_markLadder.mono _ _ _ _
      | exact laws_toLadder.mono _ _ _
      | exact spec_WorstOrder.mono _ _ _
      | exact LeO.none _
      | refine LeO.ite ?_ ?_
      | refine LeO.bind ?_ (fun _ => ?_)
set_option maxHeartbeats 8000000 in
set_option maxRecDepth 100000 in
theorem laws_FnExactWorstOrder.calls (k : Nat) (a0_0 : Int) (A0_1 : Option Addr) (c0_1 : Nat) (l0_1 : List Int) (r : Bool) (w : World) (hr0_1 : Kd.C (Kd.int .i64) w A0_1 l0_1.length l0_1) (hc0_1 : l0_1.length ≤ c0_1) (h : laws_FnExactWorstOrder.f k a0_0 l0_1 = some r) :
    Calls Try.prog 15 #[.agg #[.int .i64 a0_0, .slice A0_1 l0_1.length c0_1]] w fun e w' => e = .returned (.bool r) ∧ Below w.heap.size w w' := by
  have hu38 := Try.underlying38
  have hu27 := Try.underlying27
  have HR0_1 := Aside0.mk hr0_1
  have HC0_1 := Aside0.mk hc0_1
  clear hr0_1 hc0_1
  have HB := Aside0.mk (Below.refl w.heap.size w)
  have H : ((laws_szLadder.f a0_0 l0_1 1048576).bind fun t808 => (if t808 < 0 then (some true) else ((laws_toLadder.f k a0_0 l0_1).bind fun bt809 => ((spec_WorstOrder.f k bt809.1 bt809.2).bind fun bt813 => ((laws_toLadder.f k a0_0 l0_1).bind fun bt818 => ((impl_WorstOrder.f k bt818.1 bt818.2).bind fun bt823 => ((laws_eqIntS.f k bt823.1 bt813.1).bind fun t828 => (if t828 = true then (if bt823.2.1 = bt813.2.1 then (laws_FnExactWorstOrder.j0 k bt813.1 bt813.2.1 bt813.2.2 bt823.1 bt823.2.1 bt823.2.2 (bt823.2.2 != bt813.2.2) a0_0 l0_1 bt818.1 bt818.2) else (laws_FnExactWorstOrder.j0 k bt813.1 bt813.2.1 bt813.2.2 bt823.1 bt823.2.1 bt823.2.2 true a0_0 l0_1 bt818.1 bt818.2)) else (none))))))))) = some r := h
  clear h
  replace H := Option.bind_eq_some_iff.mp H
  obtain ⟨t808, A20, H⟩ := H
  replace H : (if t808 < 0 then (some true) else ((laws_toLadder.f k a0_0 l0_1).bind fun bt809 => ((spec_WorstOrder.f k bt809.1 bt809.2).bind fun bt813 => ((laws_toLadder.f k a0_0 l0_1).bind fun bt818 => ((impl_WorstOrder.f k bt818.1 bt818.2).bind fun bt823 => ((laws_eqIntS.f k bt823.1 bt813.1).bind fun t828 => (if t828 = true then (if bt823.2.1 = bt813.2.1 then (laws_FnExactWorstOrder.j0 k bt813.1 bt813.2.1 bt813.2.2 bt823.1 bt823.2.1 bt823.2.2 (bt823.2.2 != bt813.2.2) a0_0 l0_1 bt818.1 bt818.2) else (laws_FnExactWorstOrder.j0 k bt813.1 bt813.2.1 bt813.2.2 bt823.1 bt823.2.1 bt823.2.2 true a0_0 l0_1 bt818.1 bt818.2)) else (none)))))))) = some r := H
  have A2 := Aside0.mk A20
  clear A20
  by_cases c3 : t808 < 0
  · rw [if_pos c3] at H
    have c3b0 : decide (t808 < 0) = true := decide_eq_true c3
    clear c3
    obtain rfl := Option.some.inj H
    go_enter Try.func15, Try.ntmps15
    go_wp2_with (first | ((with_reducible refine gate_dst (N := 1) rfl ?_); refine box_event ?hg (N := 1) ?hd (cs := #[.int .i64 a0_0, .slice A0_1 l0_1.length c0_1]) (t := 38) ?hr ?_; (case hd => rfl); (case hg => rfl); (case hr => first | (go_simp; done) | (go_simp; rfl)); intro gb807 hg w4 hbox hb; have n0_ := Aside0.mk (below_step (by repeat (first | (with_reducible first | exact HB.out | apply below_alloc | apply pw_below_drewN | apply below_drew1) | exact HB.out)) hb); have n1_ := Aside0.mk (hbox); have n2_ := Aside0.mk ((by rw [hg]; exact (below_size (by repeat (first | (with_reducible first | exact HB.out | apply below_alloc | apply pw_below_drewN | apply below_drew1) | exact HB.out))) : w.heap.size ≤ gb807)); have n3_ := Aside0.mk ((by rw [hg]; exact (below_size (by repeat (first | (with_reducible first | exact HB.out | apply below_alloc | apply pw_below_drewN | apply below_drew1) | exact HB.out))) : w.heap.size ≤ gb807)); clear HB; have HB := n0_; have BK807 := n1_; have GW807 := n2_; have GE807 := n3_; clear n0_ n1_ n2_ n3_; clear hb hbox hg; have hcz5_0 : w4.cell? ⟨gb807, 0, none⟩ = some (.int .i64 a0_0) := (blk_cell BK807.out 0).trans rfl; have hcz5_1 : w4.cell? ⟨gb807, 1, none⟩ = some (.slice A0_1 l0_1.length c0_1) := (blk_cell BK807.out 1).trans rfl; have hfz5_0 := blk_frozen BK807.out 0; have hfz5_1 := blk_frozen BK807.out 1) | ((with_reducible refine gate_callee (f := 32) rfl ?_); refine goesL_ (some 19) rfl rfl Try.func32 (by kernel_rfl) rfl #[.agg #[.int .i64 a0_0, .slice A0_1 l0_1.length c0_1], .int .i64 1048576] rfl (by (try simp only [List.map_toArray, List.map_cons, List.map_nil]); first | done | rfl | (simp only [List.length_drop, List.length_take]; rfl)) ?_; (with_reducible refine (laws_szLadder.calls a0_0 _ _ l0_1 1048576 t808 _ ?side1 ?side2 A2.out).mono ?_); (case side1 => repeat (first | exact (Kd.C_below HR0_1.out HB.out) | (with_reducible refine Kd.C_alloc ?_ _) | (with_reducible refine Kd.C_drewN ?_ _) | (with_reducible refine Kd.C_drew ?_))); (case side2 => exact HC0_1.out); rintro e w6 ⟨rfl, hb⟩; refine ⟨_, rfl, ?_⟩; have n0_ := Aside0.mk (blk_below (g := gb807) (o := .cells #[.int .i64 a0_0, .slice A0_1 l0_1.length c0_1] 38 (0, 0)) (by (with_reducible repeat (first | refine blk_drewN ?_ _ | refine blk_drew ?_ | refine blk_alloc ?_ _)); exact BK807.out) hb); have n1_ := Aside0.mk (below_step (by repeat (first | (with_reducible first | exact HB.out | apply below_alloc | apply pw_below_drewN | apply below_drew1 | refine below_set ?_ GE807.out) | exact HB.out)) hb); clear BK807; clear HB; have BK807 := n0_; have HB := n1_; clear n0_ n1_; (try clear hb); (try clear hb2); (try clear hk); (try clear hi)))
    go_ret
    exact ⟨by first | rfl | (simp [errW_none, errW_some] <;> rfl) | (simp [*, errW_none, errW_some] <;> rfl), by repeat (first | (with_reducible first | exact HB.out | apply below_alloc | apply pw_below_drewN | apply below_drew1 | refine below_set ?_ GE807.out) | exact HB.out)⟩
  · rw [if_neg c3] at H
    have c3b0 : decide (t808 < 0) = false := decide_eq_false c3
    clear c3
    replace H := Option.bind_eq_some_iff.mp H
    obtain ⟨⟨t809, t810⟩, A70, H⟩ := H
    replace H : ((spec_WorstOrder.f k t809 t810).bind fun bt813 => ((laws_toLadder.f k a0_0 l0_1).bind fun bt818 => ((impl_WorstOrder.f k bt818.1 bt818.2).bind fun bt823 => ((laws_eqIntS.f k bt823.1 bt813.1).bind fun t828 => (if t828 = true then (if bt823.2.1 = bt813.2.1 then (laws_FnExactWorstOrder.j0 k bt813.1 bt813.2.1 bt813.2.2 bt823.1 bt823.2.1 bt823.2.2 (bt823.2.2 != bt813.2.2) a0_0 l0_1 bt818.1 bt818.2) else (laws_FnExactWorstOrder.j0 k bt813.1 bt813.2.1 bt813.2.2 bt823.1 bt823.2.1 bt823.2.2 true a0_0 l0_1 bt818.1 bt818.2)) else (none)))))) = some r := H
    have A7 := Aside0.mk A70
    clear A70
    replace H := Option.bind_eq_some_iff.mp H
    obtain ⟨⟨t813, t816, t817⟩, A80, H⟩ := H
    replace H : ((laws_toLadder.f k a0_0 l0_1).bind fun bt818 => ((impl_WorstOrder.f k bt818.1 bt818.2).bind fun bt823 => ((laws_eqIntS.f k bt823.1 t813).bind fun t828 => (if t828 = true then (if bt823.2.1 = t816 then (laws_FnExactWorstOrder.j0 k t813 t816 t817 bt823.1 bt823.2.1 bt823.2.2 (bt823.2.2 != t817) a0_0 l0_1 bt818.1 bt818.2) else (laws_FnExactWorstOrder.j0 k t813 t816 t817 bt823.1 bt823.2.1 bt823.2.2 true a0_0 l0_1 bt818.1 bt818.2)) else (none))))) = some r := H
    have A8 := Aside0.mk A80
    clear A80
    replace H := Option.bind_eq_some_iff.mp H
    obtain ⟨⟨t818, t819⟩, A90, H⟩ := H
    replace H : ((impl_WorstOrder.f k t818 t819).bind fun bt823 => ((laws_eqIntS.f k bt823.1 t813).bind fun t828 => (if t828 = true then (if bt823.2.1 = t816 then (laws_FnExactWorstOrder.j0 k t813 t816 t817 bt823.1 bt823.2.1 bt823.2.2 (bt823.2.2 != t817) a0_0 l0_1 t818 t819) else (laws_FnExactWorstOrder.j0 k t813 t816 t817 bt823.1 bt823.2.1 bt823.2.2 true a0_0 l0_1 t818 t819)) else (none)))) = some r := H
    have A9 := Aside0.mk A90
    clear A90
    replace H := Option.bind_eq_some_iff.mp H
    obtain ⟨⟨t823, t826, t827⟩, A100, H⟩ := H
    replace H : ((laws_eqIntS.f k t823 t813).bind fun t828 => (if t828 = true then (if t826 = t816 then (laws_FnExactWorstOrder.j0 k t813 t816 t817 t823 t826 t827 (t827 != t817) a0_0 l0_1 t818 t819) else (laws_FnExactWorstOrder.j0 k t813 t816 t817 t823 t826 t827 true a0_0 l0_1 t818 t819)) else (none))) = some r := H
    have A10 := Aside0.mk A100
    clear A100
    have HC11 := Aside0.mk H
    clear H
    go_enter Try.func15, Try.ntmps15
    go_upto_region 8 with (first | ((with_reducible refine gate_dst (N := 1) rfl ?_); refine box_event ?hg (N := 1) ?hd (cs := #[.int .i64 a0_0, .slice A0_1 l0_1.length c0_1]) (t := 38) ?hr ?_; (case hd => rfl); (case hg => rfl); (case hr => first | (go_simp; done) | (go_simp; rfl)); intro gb807 hg w12 hbox hb; have n0_ := Aside0.mk (below_step (by repeat (first | (with_reducible first | exact HB.out | apply below_alloc | apply pw_below_drewN | apply below_drew1) | exact HB.out)) hb); have n1_ := Aside0.mk (hbox); have n2_ := Aside0.mk ((by rw [hg]; exact (below_size (by repeat (first | (with_reducible first | exact HB.out | apply below_alloc | apply pw_below_drewN | apply below_drew1) | exact HB.out))) : w.heap.size ≤ gb807)); have n3_ := Aside0.mk ((by rw [hg]; exact (below_size (by repeat (first | (with_reducible first | exact HB.out | apply below_alloc | apply pw_below_drewN | apply below_drew1) | exact HB.out))) : w.heap.size ≤ gb807)); clear HB; have HB := n0_; have BK807 := n1_; have GW807 := n2_; have GE807 := n3_; clear n0_ n1_ n2_ n3_; clear hb hbox hg; have hcz13_0 : w12.cell? ⟨gb807, 0, none⟩ = some (.int .i64 a0_0) := (blk_cell BK807.out 0).trans rfl; have hcz13_1 : w12.cell? ⟨gb807, 1, none⟩ = some (.slice A0_1 l0_1.length c0_1) := (blk_cell BK807.out 1).trans rfl; have hfz13_0 := blk_frozen BK807.out 0; have hfz13_1 := blk_frozen BK807.out 1) | ((with_reducible refine gate_callee (f := 32) rfl ?_); refine goesL_ (some 19) rfl rfl Try.func32 (by kernel_rfl) rfl #[.agg #[.int .i64 a0_0, .slice A0_1 l0_1.length c0_1], .int .i64 1048576] rfl (by (try simp only [List.map_toArray, List.map_cons, List.map_nil]); first | done | rfl | (simp only [List.length_drop, List.length_take]; rfl)) ?_; (with_reducible refine (laws_szLadder.calls a0_0 _ _ l0_1 1048576 t808 _ ?side1 ?side2 A2.out).mono ?_); (case side1 => repeat (first | exact (Kd.C_below HR0_1.out HB.out) | (with_reducible refine Kd.C_alloc ?_ _) | (with_reducible refine Kd.C_drewN ?_ _) | (with_reducible refine Kd.C_drew ?_))); (case side2 => exact HC0_1.out); rintro e w14 ⟨rfl, hb⟩; refine ⟨_, rfl, ?_⟩; have n0_ := Aside0.mk (blk_below (g := gb807) (o := .cells #[.int .i64 a0_0, .slice A0_1 l0_1.length c0_1] 38 (0, 0)) (by (with_reducible repeat (first | refine blk_drewN ?_ _ | refine blk_drew ?_ | refine blk_alloc ?_ _)); exact BK807.out) hb); have n1_ := Aside0.mk (below_step (by repeat (first | (with_reducible first | exact HB.out | apply below_alloc | apply pw_below_drewN | apply below_drew1 | refine below_set ?_ GE807.out) | exact HB.out)) hb); clear BK807; clear HB; have BK807 := n0_; have HB := n1_; clear n0_ n1_; (try clear hb); (try clear hb2); (try clear hk); (try clear hi); have hcz15_0 : w14.cell? ⟨gb807, 0, none⟩ = some (.int .i64 a0_0) := (blk_cell BK807.out 0).trans rfl; have hcz15_1 : w14.cell? ⟨gb807, 1, none⟩ = some (.slice A0_1 l0_1.length c0_1) := (blk_cell BK807.out 1).trans rfl; have hfz15_0 := blk_frozen BK807.out 0; have hfz15_1 := blk_frozen BK807.out 1) | ((with_reducible refine gate_callee (f := 34) rfl ?_); refine goesL_ (some 24) rfl rfl Try.func34 (by kernel_rfl) rfl #[.agg #[.int .i64 a0_0, .slice A0_1 l0_1.length c0_1]] rfl (by (try simp only [List.map_toArray, List.map_cons, List.map_nil]); first | done | rfl | (simp only [List.length_drop, List.length_take]; rfl)) ?_; (with_reducible refine (laws_toLadder.calls k a0_0 _ _ l0_1 t809 t810 _ ?side1 ?side2 A7.out).mono ?_); (case side1 => repeat (first | exact (Kd.C_below HR0_1.out HB.out) | (with_reducible refine Kd.C_alloc ?_ _) | (with_reducible refine Kd.C_drewN ?_ _) | (with_reducible refine Kd.C_drew ?_))); (case side2 => exact HC0_1.out); rintro e w16 ⟨v811, rfl, ho0, hb⟩; refine ⟨_, rfl, ?_⟩; have n0_ := Aside0.mk (Kd.R_lower ho0 (below_size (by repeat (first | (with_reducible first | exact HB.out | apply below_alloc | apply pw_below_drewN | apply below_drew1 | refine below_set ?_ GE807.out) | exact HB.out)))); have n1_ := Aside0.mk (blk_below (g := gb807) (o := .cells #[.int .i64 a0_0, .slice A0_1 l0_1.length c0_1] 38 (0, 0)) (by (with_reducible repeat (first | refine blk_drewN ?_ _ | refine blk_drew ?_ | refine blk_alloc ?_ _)); exact BK807.out) hb); have n2_ := Aside0.mk (below_step (by repeat (first | (with_reducible first | exact HB.out | apply below_alloc | apply pw_below_drewN | apply below_drew1 | refine below_set ?_ GE807.out) | exact HB.out)) hb); clear BK807; clear HB; have HO812 := n0_; have BK807 := n1_; have HB := n2_; clear n0_ n1_ n2_; (try clear hb); (try clear hb2); (try clear hk); (try clear hi); (try clear ho0); obtain ⟨Ao17, co17, eo17⟩ := Kd.R_slice HO812.out; subst eo17) | ((with_reducible refine gate_callee (f := 52) rfl ?_); refine goesL_ (some 25) rfl rfl Try.func52 (by kernel_rfl) rfl #[.agg #[.int .i64 t809, .slice Ao17 t810.length co17]] rfl (by (try simp only [List.map_toArray, List.map_cons, List.map_nil]); first | done | rfl | (simp only [List.length_drop, List.length_take]; rfl)) ?_; (with_reducible refine (spec_WorstOrder.calls k t809 _ _ t810 t813 t816 t817 _ ?side1 ?side2 A8.out).mono ?_); (case side1 => repeat (first | exact (Kd.R_reads' HO812.out).2.2 | (with_reducible refine Kd.C_alloc ?_ _) | (with_reducible refine Kd.C_drewN ?_ _) | (with_reducible refine Kd.C_drew ?_))); (case side2 => exact (Kd.R_reads' HO812.out).2.1); rintro e w18 ⟨v814, rfl, ho0, hb⟩; refine ⟨_, rfl, ?_⟩; have n0_ := Aside0.mk (Kd.R_elder' (by (with_reducible repeat (first | apply Kd.R_alloc | apply Kd.R_drewN | apply Kd.R_drew)); exact HO812.out) (Kd.R_base ho0) hb); have n1_ := Aside0.mk (Kd.R_lower (Kd.R_new' ho0 (Kd.R_lt (by (with_reducible repeat (first | apply Kd.R_alloc | apply Kd.R_drewN | apply Kd.R_drew)); exact HO812.out))) (below_size (by repeat (first | (with_reducible first | exact HB.out | apply below_alloc | apply pw_below_drewN | apply below_drew1 | refine below_set ?_ GE807.out) | exact HB.out)))); have n2_ := Aside0.mk (blk_below (g := gb807) (o := .cells #[.int .i64 a0_0, .slice A0_1 l0_1.length c0_1] 38 (0, 0)) (by (with_reducible repeat (first | refine blk_drewN ?_ _ | refine blk_drew ?_ | refine blk_alloc ?_ _)); exact BK807.out) hb); have n3_ := Aside0.mk (below_step (by repeat (first | (with_reducible first | exact HB.out | apply below_alloc | apply pw_below_drewN | apply below_drew1 | refine below_set ?_ GE807.out) | exact HB.out)) hb); clear HO812; clear BK807; clear HB; have HO812 := n0_; have HO815 := n1_; have BK807 := n2_; have HB := n3_; clear n0_ n1_ n2_ n3_; (try clear hb); (try clear hb2); (try clear hk); (try clear hi); (try clear ho0); have hcz19_0 : w18.cell? ⟨gb807, 0, none⟩ = some (.int .i64 a0_0) := (blk_cell BK807.out 0).trans rfl; have hcz19_1 : w18.cell? ⟨gb807, 1, none⟩ = some (.slice A0_1 l0_1.length c0_1) := (blk_cell BK807.out 1).trans rfl; have hfz19_0 := blk_frozen BK807.out 0; have hfz19_1 := blk_frozen BK807.out 1) | ((with_reducible refine gate_callee (f := 34) rfl ?_); refine goesL_ (some 30) rfl rfl Try.func34 (by kernel_rfl) rfl #[.agg #[.int .i64 a0_0, .slice A0_1 l0_1.length c0_1]] rfl (by (try simp only [List.map_toArray, List.map_cons, List.map_nil]); first | done | rfl | (simp only [List.length_drop, List.length_take]; rfl)) ?_; (with_reducible refine (laws_toLadder.calls k a0_0 _ _ l0_1 t818 t819 _ ?side1 ?side2 A9.out).mono ?_); (case side1 => repeat (first | exact (Kd.C_below HR0_1.out HB.out) | (with_reducible refine Kd.C_alloc ?_ _) | (with_reducible refine Kd.C_drewN ?_ _) | (with_reducible refine Kd.C_drew ?_))); (case side2 => exact HC0_1.out); rintro e w20 ⟨v820, rfl, ho0, hb⟩; refine ⟨_, rfl, ?_⟩; have n0_ := Aside0.mk (Kd.R_elder' (by (with_reducible repeat (first | apply Kd.R_alloc | apply Kd.R_drewN | apply Kd.R_drew)); exact HO812.out) (Kd.R_base ho0) hb); have n1_ := Aside0.mk (Kd.R_elder' (by (with_reducible repeat (first | apply Kd.R_alloc | apply Kd.R_drewN | apply Kd.R_drew)); exact HO815.out) (Kd.R_base ho0) hb); have n2_ := Aside0.mk (Kd.R_lower (Kd.R_new' (Kd.R_new' ho0 (Kd.R_lt (by (with_reducible repeat (first | apply Kd.R_alloc | apply Kd.R_drewN | apply Kd.R_drew)); exact HO812.out))) (Kd.R_lt (by (with_reducible repeat (first | apply Kd.R_alloc | apply Kd.R_drewN | apply Kd.R_drew)); exact HO815.out))) (below_size (by repeat (first | (with_reducible first | exact HB.out | apply below_alloc | apply pw_below_drewN | apply below_drew1 | refine below_set ?_ GE807.out) | exact HB.out)))); have n3_ := Aside0.mk (blk_below (g := gb807) (o := .cells #[.int .i64 a0_0, .slice A0_1 l0_1.length c0_1] 38 (0, 0)) (by (with_reducible repeat (first | refine blk_drewN ?_ _ | refine blk_drew ?_ | refine blk_alloc ?_ _)); exact BK807.out) hb); have n4_ := Aside0.mk (below_step (by repeat (first | (with_reducible first | exact HB.out | apply below_alloc | apply pw_below_drewN | apply below_drew1 | refine below_set ?_ GE807.out) | exact HB.out)) hb); clear HO812; clear HO815; clear BK807; clear HB; have HO812 := n0_; have HO815 := n1_; have HO821 := n2_; have BK807 := n3_; have HB := n4_; clear n0_ n1_ n2_ n3_ n4_; (try clear hb); (try clear hb2); (try clear hk); (try clear hi); (try clear ho0)) | ((with_reducible refine gate_dst (N := 7) rfl ?_); refine box_event ?hg (N := 7) ?hd (cs := #[.int .i64 0, .slice none 0 0]) (t := 27) ?hr ?_; (case hd => rfl); (case hg => rfl); (case hr => first | (go_simp; done) | (go_simp; rfl)); intro gb822 hg w21 hbox hb; have n0_ := Aside0.mk (Kd.R_below (by (with_reducible repeat (first | apply Kd.R_alloc | apply Kd.R_drewN | apply Kd.R_drew)); exact HO812.out) hb); have n1_ := Aside0.mk (Kd.R_below (by (with_reducible repeat (first | apply Kd.R_alloc | apply Kd.R_drewN | apply Kd.R_drew)); exact HO815.out) hb); have n2_ := Aside0.mk (Kd.R_below (by (with_reducible repeat (first | apply Kd.R_alloc | apply Kd.R_drewN | apply Kd.R_drew)); exact HO821.out) hb); have n3_ := Aside0.mk (blk_below (g := gb807) (o := .cells #[.int .i64 a0_0, .slice A0_1 l0_1.length c0_1] 38 (0, 0)) (by (with_reducible repeat (first | refine blk_drewN ?_ _ | refine blk_drew ?_ | refine blk_alloc ?_ _)); exact BK807.out) hb); have n4_ := Aside0.mk (below_step (by repeat (first | (with_reducible first | exact HB.out | apply below_alloc | apply pw_below_drewN | apply below_drew1 | refine below_set ?_ GE807.out) | exact HB.out)) hb); have n5_ := Aside0.mk (hbox); have n6_ := Aside0.mk ((by rw [hg]; exact (below_size (by repeat (first | (with_reducible first | exact HB.out | apply below_alloc | apply pw_below_drewN | apply below_drew1 | refine below_set ?_ GE807.out) | exact HB.out))) : w.heap.size ≤ gb822)); have n7_ := Aside0.mk ((by rw [hg]; exact (below_size (by repeat (first | (with_reducible first | exact HB.out | apply below_alloc | apply pw_below_drewN | apply below_drew1 | refine below_set ?_ GE807.out) | exact HB.out))) : w.heap.size ≤ gb822)); have n8_ := Aside0.mk ((by rw [hg]; exact Nat.ne_of_lt (blk_lt (g := gb807) (o := .cells #[.int .i64 a0_0, .slice A0_1 l0_1.length c0_1] 38 (0, 0)) (by (with_reducible repeat (first | refine blk_drewN ?_ _ | refine blk_drew ?_ | refine blk_alloc ?_ _)); exact BK807.out)) : gb807 ≠ gb822)); have n9_ := Aside0.mk ((by rw [hg]; exact Nat.ne_of_gt (blk_lt (g := gb807) (o := .cells #[.int .i64 a0_0, .slice A0_1 l0_1.length c0_1] 38 (0, 0)) (by (with_reducible repeat (first | refine blk_drewN ?_ _ | refine blk_drew ?_ | refine blk_alloc ?_ _)); exact BK807.out)) : gb822 ≠ gb807)); clear HO812; clear HO815; clear HO821; clear BK807; clear HB; have HO812 := n0_; have HO815 := n1_; have HO821 := n2_; have BK807 := n3_; have HB := n4_; have BK822 := n5_; have GW822 := n6_; have GE822 := n7_; have NB807_822 := n8_; have NB822_807 := n9_; clear n0_ n1_ n2_ n3_ n4_ n5_ n6_ n7_ n8_ n9_; clear hb hbox hg; have hnb22 := NB822_807.out; have hnc22 := NB807_822.out; have hcz23_0 : w21.cell? ⟨gb822, 0, none⟩ = some (.int .i64 0) := (blk_cell BK822.out 0).trans rfl; have hcz23_1 : w21.cell? ⟨gb822, 1, none⟩ = some (.slice none 0 0) := (blk_cell BK822.out 1).trans rfl; have hfz23_0 := blk_frozen BK822.out 0; have hfz23_1 := blk_frozen BK822.out 1; obtain ⟨Ao24, co24, eo24⟩ := Kd.R_slice HO821.out; subst eo24) | ((with_reducible refine gate_callee (f := 53) rfl ?_); refine goesL_ (some 33) rfl rfl Try.func53 (by kernel_rfl) rfl #[.agg #[.int .i64 t818, .slice Ao24 t819.length co24]] rfl (by (try simp only [List.map_toArray, List.map_cons, List.map_nil]); first | done | rfl | (simp only [List.length_drop, List.length_take]; rfl)) ?_; (with_reducible refine (impl_WorstOrder.calls k t818 _ _ t819 t823 t826 t827 _ ?side1 ?side2 A10.out).mono ?_); (case side1 => refine (Kd.R_reads' (e := 3) (base := w.heap.size) (ok := fun k_ => ((True ∧ some k_ ≠ (.slice Ao17 t810.length co17 : Value).ownBlock) ∧ some k_ ≠ (v814 : Value).ownBlock)) (n := t819.length) (c := co24) ?_).2.2; exact (by (with_reducible repeat (first | apply Kd.R_alloc | apply Kd.R_drewN | apply Kd.R_drew)); exact (Kd.R_mono (Kd.R_far (p := ⟨gb822, 1, none⟩) (Kd.R_far (p := ⟨gb822, 0, none⟩) (Kd.R_types HO821.out BK822.out (by decide)) (fun _ hk => by first | exact hk.2 | simp [hk]) (.int .i64 t818)) (fun _ hk => by first | exact hk.2 | simp [hk]) (.slice Ao24 t819.length co24)) (fun _ h_ => h_.1)))); (case side2 => exact (Kd.R_reads' HO821.out).2.1); rintro e w25 ⟨v824, rfl, ho0, hb⟩; refine ⟨_, rfl, ?_⟩; have n0_ := Aside0.mk (Kd.R_elder' (by (with_reducible repeat (first | apply Kd.R_alloc | apply Kd.R_drewN | apply Kd.R_drew)); exact (Kd.R_mono (Kd.R_far (p := ⟨gb822, 1, none⟩) (Kd.R_far (p := ⟨gb822, 0, none⟩) (Kd.R_types HO812.out BK822.out (by decide)) (fun _ hk => by first | exact hk.2 | simp [hk]) (.int .i64 t818)) (fun _ hk => by first | exact hk.2 | simp [hk]) (.slice Ao24 t819.length co24)) (fun _ h_ => h_.1))) (Kd.R_base ho0) hb); have n1_ := Aside0.mk (Kd.R_elder' (by (with_reducible repeat (first | apply Kd.R_alloc | apply Kd.R_drewN | apply Kd.R_drew)); exact (Kd.R_mono (Kd.R_far (p := ⟨gb822, 1, none⟩) (Kd.R_far (p := ⟨gb822, 0, none⟩) (Kd.R_types HO815.out BK822.out (by decide)) (fun _ hk => by first | exact hk.2 | simp [hk]) (.int .i64 t818)) (fun _ hk => by first | exact hk.2 | simp [hk]) (.slice Ao24 t819.length co24)) (fun _ h_ => h_.1))) (Kd.R_base ho0) hb); have n2_ := Aside0.mk (Kd.R_elder' (by (with_reducible repeat (first | apply Kd.R_alloc | apply Kd.R_drewN | apply Kd.R_drew)); exact (Kd.R_mono (Kd.R_far (p := ⟨gb822, 1, none⟩) (Kd.R_far (p := ⟨gb822, 0, none⟩) (Kd.R_types HO821.out BK822.out (by decide)) (fun _ hk => by first | exact hk.2 | simp [hk]) (.int .i64 t818)) (fun _ hk => by first | exact hk.2 | simp [hk]) (.slice Ao24 t819.length co24)) (fun _ h_ => h_.1))) (Kd.R_base ho0) hb); have n3_ := Aside0.mk (Kd.R_lower (Kd.R_new' (Kd.R_new' (Kd.R_new' ho0 (Kd.R_lt (by (with_reducible repeat (first | apply Kd.R_alloc | apply Kd.R_drewN | apply Kd.R_drew)); exact (Kd.R_mono (Kd.R_far (p := ⟨gb822, 1, none⟩) (Kd.R_far (p := ⟨gb822, 0, none⟩) (Kd.R_types HO812.out BK822.out (by decide)) (fun _ hk => by first | exact hk.2 | simp [hk]) (.int .i64 t818)) (fun _ hk => by first | exact hk.2 | simp [hk]) (.slice Ao24 t819.length co24)) (fun _ h_ => h_.1))))) (Kd.R_lt (by (with_reducible repeat (first | apply Kd.R_alloc | apply Kd.R_drewN | apply Kd.R_drew)); exact (Kd.R_mono (Kd.R_far (p := ⟨gb822, 1, none⟩) (Kd.R_far (p := ⟨gb822, 0, none⟩) (Kd.R_types HO815.out BK822.out (by decide)) (fun _ hk => by first | exact hk.2 | simp [hk]) (.int .i64 t818)) (fun _ hk => by first | exact hk.2 | simp [hk]) (.slice Ao24 t819.length co24)) (fun _ h_ => h_.1))))) (Kd.R_lt (by (with_reducible repeat (first | apply Kd.R_alloc | apply Kd.R_drewN | apply Kd.R_drew)); exact (Kd.R_mono (Kd.R_far (p := ⟨gb822, 1, none⟩) (Kd.R_far (p := ⟨gb822, 0, none⟩) (Kd.R_types HO821.out BK822.out (by decide)) (fun _ hk => by first | exact hk.2 | simp [hk]) (.int .i64 t818)) (fun _ hk => by first | exact hk.2 | simp [hk]) (.slice Ao24 t819.length co24)) (fun _ h_ => h_.1))))) (below_size (by repeat (first | (with_reducible first | exact HB.out | apply below_alloc | apply pw_below_drewN | apply below_drew1 | refine below_set ?_ GE807.out | refine below_set ?_ GE822.out) | exact HB.out)))); have n4_ := Aside0.mk (blk_below (g := gb807) (o := .cells #[.int .i64 a0_0, .slice A0_1 l0_1.length c0_1] 38 (0, 0)) (by (with_reducible repeat (first | refine blk_drewN ?_ _ | refine blk_drew ?_ | refine blk_alloc ?_ _)); refine blk_far ?_ NB807_822.out _; (with_reducible repeat (first | refine blk_drewN ?_ _ | refine blk_drew ?_ | refine blk_alloc ?_ _)); refine blk_far ?_ NB807_822.out _; (with_reducible repeat (first | refine blk_drewN ?_ _ | refine blk_drew ?_ | refine blk_alloc ?_ _)); exact BK807.out) hb); have n5_ := Aside0.mk (blk_below (g := gb822) (o := .cells #[.int .i64 t818, .slice Ao24 t819.length co24] 27 (0, 0)) (by (with_reducible repeat (first | refine blk_drewN ?_ _ | refine blk_drew ?_ | refine blk_alloc ?_ _)); refine blk_put (cs := #[.int .i64 t818, .slice none 0 0]) ?_ 1 _ rfl; (with_reducible repeat (first | refine blk_drewN ?_ _ | refine blk_drew ?_ | refine blk_alloc ?_ _)); refine blk_put (cs := #[.int .i64 0, .slice none 0 0]) ?_ 0 _ rfl; (with_reducible repeat (first | refine blk_drewN ?_ _ | refine blk_drew ?_ | refine blk_alloc ?_ _)); exact BK822.out) hb); have n6_ := Aside0.mk (below_step (by repeat (first | (with_reducible first | exact HB.out | apply below_alloc | apply pw_below_drewN | apply below_drew1 | refine below_set ?_ GE807.out | refine below_set ?_ GE822.out) | exact HB.out)) hb); clear HO812; clear HO815; clear HO821; clear BK807; clear BK822; clear HB; have HO812 := n0_; have HO815 := n1_; have HO821 := n2_; have HO825 := n3_; have BK807 := n4_; have BK822 := n5_; have HB := n6_; clear n0_ n1_ n2_ n3_ n4_ n5_ n6_; (try clear hb); (try clear hb2); (try clear hk); (try clear hi); (try clear ho0)))
    (try simp only [Act.put, List.setIfInBounds_toArray, List.set_cons_zero, List.set_cons_succ])
    go_cut [50] (fun v50 wc => ∃ (kq : Nat) (x50_10 : Bool), v50 = .bool x50_10 ∧ Aside0 (laws_FnExactWorstOrder.j0 kq t813 t816 t817 t823 t826 t827 x50_10 a0_0 l0_1 t818 t819 = some r) ∧ Aside0 (kq ≤ k) ∧ Aside0 (Kd.R (Kd.int .i64) 3 wc w.heap.size (fun k_ => some k_ ≠ (v824 : Value).ownBlock ∧ some k_ ≠ ((.slice Ao24 t819.length co24) : Value).ownBlock) v814 t813) ∧ Aside0 (Kd.R (Kd.int .i64) 3 wc w.heap.size (fun k_ => some k_ ≠ (v814 : Value).ownBlock ∧ some k_ ≠ ((.slice Ao24 t819.length co24) : Value).ownBlock) v824 t823) ∧ Aside0 (Kd.R (Kd.int .i64) 3 wc w.heap.size (fun k_ => some k_ ≠ (v814 : Value).ownBlock ∧ some k_ ≠ (v824 : Value).ownBlock) (.slice Ao24 t819.length co24) t819) ∧ Aside0 (wc.heap[gb807]? = some (.cells #[.int .i64 a0_0, (.slice A0_1 l0_1.length c0_1)] 38 (0, 0))) ∧ Aside0 (wc.heap[gb822]? = some (.cells #[.int .i64 t818, (.slice Ao24 t819.length co24)] 27 (0, 0))) ∧ Aside0 (Below w.heap.size w wc))
    case first =>
      have H := HC11.out
      clear HC11
      replace H := Option.bind_eq_some_iff.mp H
      obtain ⟨t828, A260, H⟩ := H
      replace H : (if t828 = true then (if t826 = t816 then (laws_FnExactWorstOrder.j0 k t813 t816 t817 t823 t826 t827 (t827 != t817) a0_0 l0_1 t818 t819) else (laws_FnExactWorstOrder.j0 k t813 t816 t817 t823 t826 t827 true a0_0 l0_1 t818 t819)) else (none)) = some r := H
      have A26 := Aside0.mk A260
      clear A260
      by_cases c27 : t828 = true
      · subst c27
        have H1 : (if t826 = t816 then (laws_FnExactWorstOrder.j0 k t813 t816 t817 t823 t826 t827 (t827 != t817) a0_0 l0_1 t818 t819) else (laws_FnExactWorstOrder.j0 k t813 t816 t817 t823 t826 t827 true a0_0 l0_1 t818 t819)) = some r := by rw [if_pos rfl] at H; exact H
        clear H
        have H := H1
        clear H1
        by_cases c28 : t826 = t816
        · rw [if_pos c28] at H
          have c28b0 : (t826 == t816) = true := beq_iff_eq.mpr c28
          have c28b1 : (t826 != t816) = false := bne_eq_false_iff_eq.mpr c28
          clear c28
          (first | rw [c28b0] | (simp only [i64_w, i32_w]; rw [c28b0]) | skip)
          have H' := Aside0.mk H
          clear H
          obtain ⟨Ao29, co29, eo29⟩ := Kd.R_slice HO825.out
          subst eo29
          obtain ⟨Ao30, co30, eo30⟩ := Kd.R_slice HO815.out
          subst eo30
          go_wp2_with (first | ((with_reducible refine gate_callee (f := 29) rfl ?_); refine goesL_ (some 39) rfl rfl Try.func29 (by kernel_rfl) rfl #[.slice Ao29 t823.length co29, .slice Ao30 t813.length co30] rfl (by (try simp only [List.map_toArray, List.map_cons, List.map_nil]); first | done | rfl | (simp only [List.length_drop, List.length_take]; rfl)) ?_; (with_reducible refine (laws_eqIntS.calls k _ _ t823 _ _ t813 true _ ?side1 ?side2 ?side3 ?side4 A26.out).mono ?_); (case side1 => repeat (first | exact (Kd.R_reads' HO825.out).2.2 | (with_reducible refine Kd.C_alloc ?_ _) | (with_reducible refine Kd.C_drewN ?_ _) | (with_reducible refine Kd.C_drew ?_))); (case side2 => exact (Kd.R_reads' HO825.out).2.1); (case side3 => repeat (first | exact (Kd.R_reads' HO815.out).2.2 | (with_reducible refine Kd.C_alloc ?_ _) | (with_reducible refine Kd.C_drewN ?_ _) | (with_reducible refine Kd.C_drew ?_))); (case side4 => exact (Kd.R_reads' HO815.out).2.1); rintro e w' ⟨rfl, ⟨nd, rfl⟩⟩; refine ⟨_, rfl, ?_⟩))
          go_meet
          case rel => exact ⟨_, ((t827 != t817)), (by first | rfl | (simp; done) | (simp [*]; done)), H', ⟨by first | omega | exact Nat.le_refl _⟩, ⟨by (with_reducible repeat (first | apply Kd.R_alloc | apply Kd.R_drewN | apply Kd.R_drew)); exact Kd.R_mono HO815.out (fun _ hk => by first | exact ⟨hk.2, hk.1.2⟩ | simp [hk])⟩, ⟨by (with_reducible repeat (first | apply Kd.R_alloc | apply Kd.R_drewN | apply Kd.R_drew)); exact Kd.R_mono HO825.out (fun _ hk => by first | exact ⟨hk.1.2, hk.2⟩ | simp [hk])⟩, ⟨by (with_reducible repeat (first | apply Kd.R_alloc | apply Kd.R_drewN | apply Kd.R_drew)); exact Kd.R_mono HO821.out (fun _ hk => by first | exact ⟨hk.1.2, hk.2⟩ | simp [hk])⟩, ⟨by (with_reducible repeat (first | refine blk_drewN ?_ _ | refine blk_drew ?_ | refine blk_alloc ?_ _)); exact BK807.out⟩, ⟨by (with_reducible repeat (first | refine blk_drewN ?_ _ | refine blk_drew ?_ | refine blk_alloc ?_ _)); exact BK822.out⟩, ⟨by repeat (first | (with_reducible first | exact HB.out | apply below_alloc | apply pw_below_drewN | apply below_drew1 | refine below_set ?_ GE807.out | refine below_set ?_ GE822.out) | exact HB.out)⟩⟩
        · rw [if_neg c28] at H
          have c28b0 : (t826 == t816) = false := beq_eq_false_iff_ne.mpr c28
          have c28b1 : (t826 != t816) = true := bne_iff_ne.mpr c28
          (first | rw [c28b0] | (simp only [i64_w, i32_w]; rw [c28b0]) | skip)
          have H' := Aside0.mk H
          clear H
          obtain ⟨Ao31, co31, eo31⟩ := Kd.R_slice HO825.out
          subst eo31
          obtain ⟨Ao32, co32, eo32⟩ := Kd.R_slice HO815.out
          subst eo32
          go_wp2_with (first | ((with_reducible refine gate_callee (f := 29) rfl ?_); refine goesL_ (some 39) rfl rfl Try.func29 (by kernel_rfl) rfl #[.slice Ao31 t823.length co31, .slice Ao32 t813.length co32] rfl (by (try simp only [List.map_toArray, List.map_cons, List.map_nil]); first | done | rfl | (simp only [List.length_drop, List.length_take]; rfl)) ?_; (with_reducible refine (laws_eqIntS.calls k _ _ t823 _ _ t813 true _ ?side1 ?side2 ?side3 ?side4 A26.out).mono ?_); (case side1 => repeat (first | exact (Kd.R_reads' HO825.out).2.2 | (with_reducible refine Kd.C_alloc ?_ _) | (with_reducible refine Kd.C_drewN ?_ _) | (with_reducible refine Kd.C_drew ?_))); (case side2 => exact (Kd.R_reads' HO825.out).2.1); (case side3 => repeat (first | exact (Kd.R_reads' HO815.out).2.2 | (with_reducible refine Kd.C_alloc ?_ _) | (with_reducible refine Kd.C_drewN ?_ _) | (with_reducible refine Kd.C_drew ?_))); (case side4 => exact (Kd.R_reads' HO815.out).2.1); rintro e w' ⟨rfl, ⟨nd, rfl⟩⟩; refine ⟨_, rfl, ?_⟩))
          go_meet
          case rel => exact ⟨_, (true), (by first | rfl | (simp; done) | (simp [*]; done)), H', ⟨by first | omega | exact Nat.le_refl _⟩, ⟨by (with_reducible repeat (first | apply Kd.R_alloc | apply Kd.R_drewN | apply Kd.R_drew)); exact Kd.R_mono HO815.out (fun _ hk => by first | exact ⟨hk.2, hk.1.2⟩ | simp [hk])⟩, ⟨by (with_reducible repeat (first | apply Kd.R_alloc | apply Kd.R_drewN | apply Kd.R_drew)); exact Kd.R_mono HO825.out (fun _ hk => by first | exact ⟨hk.1.2, hk.2⟩ | simp [hk])⟩, ⟨by (with_reducible repeat (first | apply Kd.R_alloc | apply Kd.R_drewN | apply Kd.R_drew)); exact Kd.R_mono HO821.out (fun _ hk => by first | exact ⟨hk.1.2, hk.2⟩ | simp [hk])⟩, ⟨by (with_reducible repeat (first | refine blk_drewN ?_ _ | refine blk_drew ?_ | refine blk_alloc ?_ _)); exact BK807.out⟩, ⟨by (with_reducible repeat (first | refine blk_drewN ?_ _ | refine blk_drew ?_ | refine blk_alloc ?_ _)); exact BK822.out⟩, ⟨by repeat (first | (with_reducible first | exact HB.out | apply below_alloc | apply pw_below_drewN | apply below_drew1 | refine below_set ?_ GE807.out | refine below_set ?_ GE822.out) | exact HB.out)⟩⟩
      · replace c27 := Bool.eq_false_iff.mpr c27
        subst c27
        have H1 : (none) = some r := by rw [if_neg (show ¬ (false = true) by decide)] at H; exact H
        clear H
        have H := H1
        clear H1
        exact absurd H (by simp)
    case rest =>
      clear HC11
      try clear c1
      try clear c2
      try clear p2
      try clear c3
      try clear c3b0
      try clear c5
      try clear c15
      try clear c22
      try clear c27
      try clear c28
      try clear c28b0
      try clear c28b1
      try clear c29
      try clear c32
      try clear hcz13_0
      try clear hcz13_1
      try clear hcz15_0
      try clear hcz15_1
      try clear hcz19_0
      try clear hcz19_1
      try clear hcz23_0
      try clear hcz23_1
      try clear hcz5_0
      try clear hcz5_1
      try clear hfz13_0
      try clear hfz13_1
      try clear hfz15_0
      try clear hfz15_1
      try clear hfz19_0
      try clear hfz19_1
      try clear hfz23_0
      try clear hfz23_1
      try clear hfz5_0
      try clear hfz5_1
      obtain ⟨kq, x50_10, rfl, HA, HJ10, HO_4, HO_8, HO_823001, BK807, BK822, HB⟩ := hcut
      cases kq with
      | zero => exact absurd HA.out (by simp [laws_FnExactWorstOrder.j0])
      | succ kj10 =>
        have H := HA.out
        clear HA
        simp only [laws_FnExactWorstOrder.j0] at H
        by_cases c33 : x50_10 = true
        · subst c33
          have H1 : (none) = some r := by rw [if_pos rfl] at H; exact H
          clear H
          have H := H1
          clear H1
          exact absurd H (by simp)
        · replace c33 := Bool.eq_false_iff.mpr c33
          subst c33
          have H1 : ((laws_toLadder.f kj10 a0_0 l0_1).bind fun bt829 => ((laws_eqLadder.f kj10 t818 t819 bt829.1 bt829.2).bind fun t833 => (if t833 = true then ((laws_markLadder.f kj10 t818 t819 1).bind fun bt834 => (if bt834.1 < 0 then (none) else ((laws_eqIntS.f kj10 t823 t813).bind fun t836 => (if t836 = true then (if t826 = t816 then (laws_FnExactWorstOrder.j1 kj10 t813 t816 t817 t823 (t827 != t817) a0_0 l0_1) else (laws_FnExactWorstOrder.j1 kj10 t813 t816 t817 t823 true a0_0 l0_1)) else (none))))) else (none)))) = some r := by rw [if_neg (show ¬ (false = true) by decide)] at H; exact H
          clear H
          have H := H1
          clear H1
          replace H := Option.bind_eq_some_iff.mp H
          obtain ⟨⟨t829, t830⟩, A340, H⟩ := H
          replace H : ((laws_eqLadder.f kj10 t818 t819 t829 t830).bind fun t833 => (if t833 = true then ((laws_markLadder.f kj10 t818 t819 1).bind fun bt834 => (if bt834.1 < 0 then (none) else ((laws_eqIntS.f kj10 t823 t813).bind fun t836 => (if t836 = true then (if t826 = t816 then (laws_FnExactWorstOrder.j1 kj10 t813 t816 t817 t823 (t827 != t817) a0_0 l0_1) else (laws_FnExactWorstOrder.j1 kj10 t813 t816 t817 t823 true a0_0 l0_1)) else (none))))) else (none))) = some r := H
          have A34 := Aside0.mk A340
          clear A340
          replace H := Option.bind_eq_some_iff.mp H
          obtain ⟨t833, A350, H⟩ := H
          replace H : (if t833 = true then ((laws_markLadder.f kj10 t818 t819 1).bind fun bt834 => (if bt834.1 < 0 then (none) else ((laws_eqIntS.f kj10 t823 t813).bind fun t836 => (if t836 = true then (if t826 = t816 then (laws_FnExactWorstOrder.j1 kj10 t813 t816 t817 t823 (t827 != t817) a0_0 l0_1) else (laws_FnExactWorstOrder.j1 kj10 t813 t816 t817 t823 true a0_0 l0_1)) else (none))))) else (none)) = some r := H
          have A35 := Aside0.mk A350
          clear A350
          by_cases c36 : t833 = true
          · subst c36
            have H1 : ((laws_markLadder.f kj10 t818 t819 1).bind fun bt834 => (if bt834.1 < 0 then (none) else ((laws_eqIntS.f kj10 t823 t813).bind fun t836 => (if t836 = true then (if t826 = t816 then (laws_FnExactWorstOrder.j1 kj10 t813 t816 t817 t823 (t827 != t817) a0_0 l0_1) else (laws_FnExactWorstOrder.j1 kj10 t813 t816 t817 t823 true a0_0 l0_1)) else (none))))) = some r := by rw [if_pos rfl] at H; exact H
            clear H
            have H := H1
            clear H1
            replace H := Option.bind_eq_some_iff.mp H
            obtain ⟨⟨t834, t835⟩, A370, H⟩ := H
            replace H : (if t834 < 0 then (none) else ((laws_eqIntS.f kj10 t823 t813).bind fun t836 => (if t836 = true then (if t826 = t816 then (laws_FnExactWorstOrder.j1 kj10 t813 t816 t817 t823 (t827 != t817) a0_0 l0_1) else (laws_FnExactWorstOrder.j1 kj10 t813 t816 t817 t823 true a0_0 l0_1)) else (none)))) = some r := H
            have A37 := Aside0.mk A370
            clear A370
            have HC38 := Aside0.mk H
            clear H
            try go_wp2
            have n0_ := Aside0.mk (Kd.R_drew HO_4.out)
            have n1_ := Aside0.mk (Kd.R_drew HO_8.out)
            have n2_ := Aside0.mk (Kd.R_drew HO_823001.out)
            have n3_ := Aside0.mk (blk_drew BK807.out)
            have n4_ := Aside0.mk (blk_drew BK822.out)
            have n5_ := Aside0.mk (below_drew1 HB.out)
            clear HO_4
            clear HO_8
            clear HO_823001
            clear BK807
            clear BK822
            clear HB
            have HO_4 := n0_
            have HO_8 := n1_
            have HO_823001 := n2_
            have BK807 := n3_
            have BK822 := n4_
            have HB := n5_
            clear n0_ n1_ n2_ n3_ n4_ n5_
            refine start_ (n := 5) (S := fun w' => w'.cell? ⟨gb822, 0, none⟩ = some (.int .i64 t818) ∧ w'.cell? ⟨gb822, 1, none⟩ = some (.slice Ao24 t819.length co24) ∧ w'.cell? ⟨gb807, 0, none⟩ = some (.int .i64 a0_0) ∧ w'.cell? ⟨gb807, 1, none⟩ = some (.slice A0_1 l0_1.length c0_1)) (ds := []) #[false, false, false, false, false] (by kernel_rfl) rfl rfl ⟨(blk_cell BK822.out 0).trans rfl, (blk_cell BK822.out 1).trans rfl, (blk_cell BK807.out 0).trans rfl, (blk_cell BK807.out 1).trans rfl⟩ (fun hHeld => ?_)
            generalize wc.drew = w39 at HO_4 HO_8 HO_823001 BK807 BK822 HB hHeld ⊢
            refine take_ (i := 0) (N := some 51) (v := ?_) (a' := ?_) #[true, false, false, false, false] rfl rfl (by kernel_rfl) (fun _ _ _ h => h) (Or.inl ⟨by rfl, ?_⟩) hHeld ?_ ?_
            rotate_left
            · rintro w' ⟨s0, s1, s2, s3⟩
              go_simp
              with_reducible rfl
            rotate_left
            · simp only [Act.put, List.setIfInBounds_toArray, List.set_cons_zero, List.set_cons_succ, i64_w, i32_w]
              rfl
            refine take_ (i := 1) (N := some 52) (v := ?_) (a' := ?_) #[true, true, false, false, false] rfl rfl (by kernel_rfl) (fun _ _ _ h => h) (Or.inl ⟨by rfl, ?_⟩) hHeld ?_ ?_
            rotate_left
            · rintro w' ⟨s0, s1, s2, s3⟩
              go_simp
              with_reducible rfl
            rotate_left
            · simp only [Act.put, List.setIfInBounds_toArray, List.set_cons_zero, List.set_cons_succ, i64_w, i32_w]
              rfl
            refine one_ (i := 2) (N := some 53) #[true, true, true, false, false] rfl rfl (by kernel_rfl) (by decide) (fun K hK => ?_)
            refine goes_ Try.func34 (by kernel_rfl) rfl #[.agg #[.int .i64 a0_0, .slice A0_1 l0_1.length c0_1]] (by rfl) rfl rfl (by (try simp only [List.map_toArray, List.map_cons, List.map_nil]); first | done | rfl | (simp only [List.length_drop, List.length_take]; rfl)) ?_
            with_reducible refine (laws_toLadder.calls kj10 a0_0 _ _ l0_1 t829 t830 _ ?side1 ?side2 A34.out).mono ?_
            (case side1 => repeat (first | exact (Kd.C_below HR0_1.out HB.out) | (with_reducible refine Kd.C_alloc ?_ _) | (with_reducible refine Kd.C_drewN ?_ _) | (with_reducible refine Kd.C_drew ?_)))
            (case side2 => exact HC0_1.out)
            rintro e w40 ⟨v831, rfl, ho0, hb⟩
            refine ⟨_, rfl, ?_⟩
            have n0_ := Aside0.mk (Kd.R_elder' (by (with_reducible repeat (first | apply Kd.R_alloc | apply Kd.R_drewN | apply Kd.R_drew)); exact HO_4.out) (Kd.R_base ho0) hb)
            have n1_ := Aside0.mk (Kd.R_elder' (by (with_reducible repeat (first | apply Kd.R_alloc | apply Kd.R_drewN | apply Kd.R_drew)); exact HO_8.out) (Kd.R_base ho0) hb)
            have n2_ := Aside0.mk (Kd.R_elder' (by (with_reducible repeat (first | apply Kd.R_alloc | apply Kd.R_drewN | apply Kd.R_drew)); exact HO_823001.out) (Kd.R_base ho0) hb)
            have n3_ := Aside0.mk (Kd.R_lower (Kd.R_new' (Kd.R_new' (Kd.R_new' ho0 (Kd.R_lt (by (with_reducible repeat (first | apply Kd.R_alloc | apply Kd.R_drewN | apply Kd.R_drew)); exact HO_4.out))) (Kd.R_lt (by (with_reducible repeat (first | apply Kd.R_alloc | apply Kd.R_drewN | apply Kd.R_drew)); exact HO_8.out))) (Kd.R_lt (by (with_reducible repeat (first | apply Kd.R_alloc | apply Kd.R_drewN | apply Kd.R_drew)); exact HO_823001.out))) (below_size (by repeat (first | (with_reducible first | exact HB.out | apply below_alloc | apply pw_below_drewN | apply below_drew1 | refine below_set ?_ GE807.out | refine below_set ?_ GE822.out) | exact HB.out))))
            have n4_ := Aside0.mk (blk_below (g := gb807) (o := .cells #[.int .i64 a0_0, .slice A0_1 l0_1.length c0_1] 38 (0, 0)) (by (with_reducible repeat (first | refine blk_drewN ?_ _ | refine blk_drew ?_ | refine blk_alloc ?_ _)); exact BK807.out) hb)
            have n5_ := Aside0.mk (blk_below (g := gb822) (o := .cells #[.int .i64 t818, .slice Ao24 t819.length co24] 27 (0, 0)) (by (with_reducible repeat (first | refine blk_drewN ?_ _ | refine blk_drew ?_ | refine blk_alloc ?_ _)); exact BK822.out) hb)
            have n6_ := Aside0.mk (below_step (by repeat (first | (with_reducible first | exact HB.out | apply below_alloc | apply pw_below_drewN | apply below_drew1 | refine below_set ?_ GE807.out | refine below_set ?_ GE822.out) | exact HB.out)) hb)
            clear HO_4
            clear HO_8
            clear HO_823001
            clear BK807
            clear BK822
            clear HB
            have HO_4 := n0_
            have HO_8 := n1_
            have HO_823001 := n2_
            have HO832 := n3_
            have BK807 := n4_
            have BK822 := n5_
            have HB := n6_
            clear n0_ n1_ n2_ n3_ n4_ n5_ n6_
            (try clear hb)
            (try clear hb2)
            (try clear hk)
            (try clear hi)
            (try clear ho0)
            obtain ⟨Ao41, co41, eo41⟩ := Kd.R_slice HO832.out
            (first | subst eo41 | (injection eo41 with f1_ f2_ f3_; have f4_ := f1_.symm; have f5_ := f3_.symm; clear f1_ f2_ f3_; subst f4_; subst f5_))
            refine hK.out _ _ ⟨(blk_cell BK822.out 0).trans rfl, (blk_cell BK822.out 1).trans rfl, (blk_cell BK807.out 0).trans rfl, (blk_cell BK807.out 1).trans rfl⟩ (fun hHeld => ?_)
            clear hK K
            refine norm_ (a' := ?_) ?_ ?_
            rotate_left
            · show Act.put _ (some 53) _ = _
              simp only [Act.put, List.setIfInBounds_toArray, List.set_cons_zero, List.set_cons_succ, i64_w, i32_w]
              rfl
            refine one_ (i := 3) (N := some 54) #[true, true, true, true, false] rfl rfl (by kernel_rfl) (by decide) (fun K hK => ?_)
            refine goes_ Try.func23 (by kernel_rfl) rfl #[.agg #[.int .i64 t818, .slice Ao24 t819.length co24], .agg #[.int .i64 t829, .slice Ao41 t830.length co41]] (by rfl) rfl rfl (by (try simp only [List.map_toArray, List.map_cons, List.map_nil]); first | done | rfl | (simp only [List.length_drop, List.length_take]; rfl)) ?_
            with_reducible refine (laws_eqLadder.calls kj10 t818 _ _ t819 t829 _ _ t830 true _ ?side1 ?side2 ?side3 ?side4 A35.out).mono ?_
            (case side1 => repeat (first | exact (Kd.R_reads' HO_823001.out).2.2 | (with_reducible refine Kd.C_alloc ?_ _) | (with_reducible refine Kd.C_drewN ?_ _) | (with_reducible refine Kd.C_drew ?_)))
            (case side2 => exact (Kd.R_reads' HO_823001.out).2.1)
            (case side3 => repeat (first | exact (Kd.R_reads' HO832.out).2.2 | (with_reducible refine Kd.C_alloc ?_ _) | (with_reducible refine Kd.C_drewN ?_ _) | (with_reducible refine Kd.C_drew ?_)))
            (case side4 => exact (Kd.R_reads' HO832.out).2.1)
            rintro e w42 ⟨rfl, hb⟩
            refine ⟨_, rfl, ?_⟩
            have n0_ := Aside0.mk (Kd.R_below (by (with_reducible repeat (first | apply Kd.R_alloc | apply Kd.R_drewN | apply Kd.R_drew)); exact HO_4.out) hb)
            have n1_ := Aside0.mk (Kd.R_below (by (with_reducible repeat (first | apply Kd.R_alloc | apply Kd.R_drewN | apply Kd.R_drew)); exact HO_8.out) hb)
            have n2_ := Aside0.mk (Kd.R_below (by (with_reducible repeat (first | apply Kd.R_alloc | apply Kd.R_drewN | apply Kd.R_drew)); exact HO_823001.out) hb)
            have n3_ := Aside0.mk (Kd.R_below (by (with_reducible repeat (first | apply Kd.R_alloc | apply Kd.R_drewN | apply Kd.R_drew)); exact HO832.out) hb)
            have n4_ := Aside0.mk (blk_below (g := gb807) (o := .cells #[.int .i64 a0_0, .slice A0_1 l0_1.length c0_1] 38 (0, 0)) (by (with_reducible repeat (first | refine blk_drewN ?_ _ | refine blk_drew ?_ | refine blk_alloc ?_ _)); exact BK807.out) hb)
            have n5_ := Aside0.mk (blk_below (g := gb822) (o := .cells #[.int .i64 t818, .slice Ao24 t819.length co24] 27 (0, 0)) (by (with_reducible repeat (first | refine blk_drewN ?_ _ | refine blk_drew ?_ | refine blk_alloc ?_ _)); exact BK822.out) hb)
            have n6_ := Aside0.mk (below_step (by repeat (first | (with_reducible first | exact HB.out | apply below_alloc | apply pw_below_drewN | apply below_drew1 | refine below_set ?_ GE807.out | refine below_set ?_ GE822.out) | exact HB.out)) hb)
            clear HO_4
            clear HO_8
            clear HO_823001
            clear HO832
            clear BK807
            clear BK822
            clear HB
            have HO_4 := n0_
            have HO_8 := n1_
            have HO_823001 := n2_
            have HO832 := n3_
            have BK807 := n4_
            have BK822 := n5_
            have HB := n6_
            clear n0_ n1_ n2_ n3_ n4_ n5_ n6_
            (try clear hb)
            (try clear hb2)
            (try clear hk)
            (try clear hi)
            refine hK.out _ _ ⟨(blk_cell BK822.out 0).trans rfl, (blk_cell BK822.out 1).trans rfl, (blk_cell BK807.out 0).trans rfl, (blk_cell BK807.out 1).trans rfl⟩ (fun hHeld => ?_)
            clear hK K
            refine norm_ (a' := ?_) ?_ ?_
            rotate_left
            · show Act.put _ (some 54) _ = _
              simp only [Act.put, List.setIfInBounds_toArray, List.set_cons_zero, List.set_cons_succ, i64_w, i32_w]
              rfl
            refine pure_ (i := 4) (N := some 55) (v := ?_) (a' := ?_) #[true, true, true, true, true] rfl rfl (by kernel_rfl) (fun _ _ _ h => h) (Or.inl ⟨by rfl, ?_⟩) ?_ ?_
            rotate_left
            · intro w'
              go_simp
              with_reducible rfl
            rotate_left
            · simp only [Act.put, List.setIfInBounds_toArray, List.set_cons_zero, List.set_cons_succ, i64_w, i32_w]
              rfl
            refine done_ (by kernel_rfl) ?_
            have hnb43 := NB822_807.out
            have hnc43 := NB807_822.out
            have hcz44_0 : w42.cell? ⟨gb822, 0, none⟩ = some (.int .i64 t818) := (blk_cell BK822.out 0).trans rfl
            have hcz44_1 : w42.cell? ⟨gb822, 1, none⟩ = some (.slice Ao24 t819.length co24) := (blk_cell BK822.out 1).trans rfl
            have hfz44_0 := blk_frozen BK822.out 0
            have hfz44_1 := blk_frozen BK822.out 1
            go_upto_region 14 with (first | ((with_reducible refine gate_callee (f := 24) rfl ?_); refine goesL_ (some 58) rfl rfl Try.func24 (by kernel_rfl) rfl #[.agg #[.int .i64 t818, .slice Ao24 t819.length co24], .int .i64 1] rfl (by (try simp only [List.map_toArray, List.map_cons, List.map_nil]); first | done | rfl | (simp only [List.length_drop, List.length_take]; rfl)) ?_; (with_reducible refine (laws_markLadder.calls kj10 t818 (fun k_ => some k_ = (.slice Ao24 t819.length co24 : Value).ownBlock) (.slice Ao24 t819.length co24) t819 1 t834 t835 w _ ?side1 ?side2 A37.out).mono ?_); (case side1 => repeat (first | (with_reducible first | exact HB.out | apply below_alloc | apply pw_below_drewN | apply below_drew1 | refine below_set ?_ GE807.out | refine below_set ?_ GE822.out) | exact HB.out)); (case side2 => exact Kd.R_tight rfl HO_823001.out); rintro e w45 ⟨rfl, hy0, hb, hkp⟩; refine ⟨_, rfl, ?_⟩; have n0_ := Aside0.mk (Kd.R_mono (ok' := fun k_ => some k_ ≠ (v824 : Value).ownBlock ∧ some k_ ≠ (.slice Ao24 t819.length co24 : Value).ownBlock ∧ some k_ ≠ (.slice Ao41 t830.length co41 : Value).ownBlock) (Kd.R_keptB (HO_4.out) hkp (fun k_ hk_ hs_ => by first | exact (hk_.1.2) hs_ | exact absurd hs_ (by simp [hk_]))) (fun k_ hk_ => by first | exact ⟨hk_.1.1.1, hk_.1.1.2, hk_.1.2⟩ | simp [hk_])); have n1_ := Aside0.mk (Kd.R_mono (ok' := fun k_ => some k_ ≠ (v814 : Value).ownBlock ∧ some k_ ≠ (.slice Ao24 t819.length co24 : Value).ownBlock ∧ some k_ ≠ (.slice Ao41 t830.length co41 : Value).ownBlock) (Kd.R_keptB (HO_8.out) hkp (fun k_ hk_ hs_ => by first | exact (hk_.1.2) hs_ | exact absurd hs_ (by simp [hk_]))) (fun k_ hk_ => by first | exact ⟨hk_.1.1.1, hk_.1.1.2, hk_.1.2⟩ | simp [hk_])); have n2_ := Aside0.mk (Kd.R_reok rfl hy0 (fun k_ e_ => HO_823001.out.1 k_ e_)); have n3_ := Aside0.mk (blk_kept (by (with_reducible repeat (first | refine blk_drewN ?_ _ | refine blk_drew ?_ | refine blk_alloc ?_ _)); exact BK807.out) hkp (fun hs_ => (fun e_ => (Kd.R_ne HO_823001.out BK807.out (by decide)) e_) hs_)); have n4_ := Aside0.mk (blk_kept (by (with_reducible repeat (first | refine blk_drewN ?_ _ | refine blk_drew ?_ | refine blk_alloc ?_ _)); exact BK822.out) hkp (fun hs_ => (fun e_ => (Kd.R_ne HO_823001.out BK822.out (by decide)) e_) hs_)); have n5_ := Aside0.mk (Kd.R_mono (ok' := fun k_ => some k_ ≠ (v814 : Value).ownBlock ∧ some k_ ≠ (v824 : Value).ownBlock ∧ some k_ ≠ (.slice Ao24 t819.length co24 : Value).ownBlock) (Kd.R_keptB (HO832.out) hkp (fun k_ hk_ hs_ => by first | exact (hk_.2) hs_ | exact absurd hs_ (by simp [hk_]))) (fun k_ hk_ => by first | exact ⟨hk_.1.1.1.2, hk_.1.1.2, hk_.1.2⟩ | simp [hk_])); have n6_ := Aside0.mk (hb); clear HO_4; clear HO_8; clear HO_823001; clear BK807; clear BK822; clear HO832; clear HB; have HO_4 := n0_; have HO_8 := n1_; have HO_823001 := n2_; have BK807 := n3_; have BK822 := n4_; have HO832 := n5_; have HB := n6_; clear n0_ n1_ n2_ n3_ n4_ n5_ n6_; (try clear hb); (try clear hkp); (try clear hy0)))
            (try simp only [Act.put, List.setIfInBounds_toArray, List.set_cons_zero, List.set_cons_succ])
            go_cut [76] (fun v76 wc => ∃ (kq : Nat) (x76_37 : Bool), v76 = .bool x76_37 ∧ Aside0 (laws_FnExactWorstOrder.j1 kq t813 t816 t817 t823 x76_37 a0_0 l0_1 = some r) ∧ Aside0 (kq ≤ kj10) ∧ Aside0 (Kd.R (Kd.int .i64) 3 wc w.heap.size (fun k_ => some k_ ≠ (v824 : Value).ownBlock ∧ some k_ ≠ ((.slice Ao24 t819.length co24) : Value).ownBlock) v814 t813) ∧ Aside0 (Kd.R (Kd.int .i64) 3 wc w.heap.size (fun k_ => some k_ ≠ (v814 : Value).ownBlock ∧ some k_ ≠ ((.slice Ao24 t819.length co24) : Value).ownBlock) v824 t823) ∧ Aside0 (Kd.R (Kd.int .i64) 3 wc w.heap.size (fun k_ => some k_ ≠ (v814 : Value).ownBlock ∧ some k_ ≠ (v824 : Value).ownBlock) (.slice Ao24 t819.length co24) t835) ∧ Aside0 (wc.heap[gb807]? = some (.cells #[.int .i64 a0_0, (.slice A0_1 l0_1.length c0_1)] 38 (0, 0))) ∧ Aside0 (wc.heap[gb822]? = some (.cells #[.int .i64 t818, (.slice Ao24 t819.length co24)] 27 (0, 0))) ∧ Aside0 (Below w.heap.size w wc))
            case first =>
              have H := HC38.out
              clear HC38
              by_cases c46 : t834 < 0
              · rw [if_pos c46] at H
                exact absurd H (by simp)
              · rw [if_neg c46] at H
                have c46b0 : decide (t834 < 0) = false := decide_eq_false c46
                clear c46
                (first | rw [c46b0] | (simp only [i64_w, i32_w]; rw [c46b0]) | skip)
                replace H := Option.bind_eq_some_iff.mp H
                obtain ⟨t836, A470, H⟩ := H
                replace H : (if t836 = true then (if t826 = t816 then (laws_FnExactWorstOrder.j1 kj10 t813 t816 t817 t823 (t827 != t817) a0_0 l0_1) else (laws_FnExactWorstOrder.j1 kj10 t813 t816 t817 t823 true a0_0 l0_1)) else (none)) = some r := H
                have A47 := Aside0.mk A470
                clear A470
                by_cases c48 : t836 = true
                · subst c48
                  have H1 : (if t826 = t816 then (laws_FnExactWorstOrder.j1 kj10 t813 t816 t817 t823 (t827 != t817) a0_0 l0_1) else (laws_FnExactWorstOrder.j1 kj10 t813 t816 t817 t823 true a0_0 l0_1)) = some r := by rw [if_pos rfl] at H; exact H
                  clear H
                  have H := H1
                  clear H1
                  by_cases c49 : t826 = t816
                  · rw [if_pos c49] at H
                    have c49b0 : (t826 == t816) = true := beq_iff_eq.mpr c49
                    have c49b1 : (t826 != t816) = false := bne_eq_false_iff_eq.mpr c49
                    clear c49
                    have H' := Aside0.mk H
                    clear H
                    obtain ⟨Ao50, co50, eo50⟩ := Kd.R_slice HO_8.out
                    subst eo50
                    obtain ⟨Ao51, co51, eo51⟩ := Kd.R_slice HO_4.out
                    subst eo51
                    go_wp2_with (first | (go_at_call 29; (with_reducible refine (laws_eqIntS.calls kj10 _ _ t823 _ _ t813 true _ ?side1 ?side2 ?side3 ?side4 A47.out).mono ?_); (case side1 => repeat (first | exact (Kd.R_reads' HO_8.out).2.2 | (with_reducible refine Kd.C_alloc ?_ _) | (with_reducible refine Kd.C_drewN ?_ _) | (with_reducible refine Kd.C_drew ?_))); (case side2 => exact (Kd.R_reads' HO_8.out).2.1); (case side3 => repeat (first | exact (Kd.R_reads' HO_4.out).2.2 | (with_reducible refine Kd.C_alloc ?_ _) | (with_reducible refine Kd.C_drewN ?_ _) | (with_reducible refine Kd.C_drew ?_))); (case side4 => exact (Kd.R_reads' HO_4.out).2.1); rintro e w' ⟨rfl, ⟨nd, rfl⟩⟩))
                    go_meet
                    case rel => exact ⟨_, ((t827 != t817)), (by first | rfl | (simp; done) | (simp [*]; done)), H', ⟨by have := HJ10.out; first | omega | exact Nat.le_refl _⟩, ⟨by (with_reducible repeat (first | apply Kd.R_alloc | apply Kd.R_drewN | apply Kd.R_drew)); exact Kd.R_mono HO_4.out (fun _ hk => by first | exact ⟨hk.1, hk.2.1⟩ | simp [hk])⟩, ⟨by (with_reducible repeat (first | apply Kd.R_alloc | apply Kd.R_drewN | apply Kd.R_drew)); exact Kd.R_mono HO_8.out (fun _ hk => by first | exact ⟨hk.1, hk.2.1⟩ | simp [hk])⟩, ⟨by (with_reducible repeat (first | apply Kd.R_alloc | apply Kd.R_drewN | apply Kd.R_drew)); exact Kd.R_mono HO_823001.out (fun _ hk => by first | exact ⟨hk.1.1, hk.1.2⟩ | simp [hk])⟩, ⟨by (with_reducible repeat (first | refine blk_drewN ?_ _ | refine blk_drew ?_ | refine blk_alloc ?_ _)); exact BK807.out⟩, ⟨by (with_reducible repeat (first | refine blk_drewN ?_ _ | refine blk_drew ?_ | refine blk_alloc ?_ _)); exact BK822.out⟩, ⟨by repeat (first | (with_reducible first | exact HB.out | apply below_alloc | apply pw_below_drewN | apply below_drew1 | refine below_set ?_ GE807.out | refine below_set ?_ GE822.out) | exact HB.out)⟩⟩
                  · rw [if_neg c49] at H
                    have c49b0 : (t826 == t816) = false := beq_eq_false_iff_ne.mpr c49
                    have c49b1 : (t826 != t816) = true := bne_iff_ne.mpr c49
                    have H' := Aside0.mk H
                    clear H
                    obtain ⟨Ao52, co52, eo52⟩ := Kd.R_slice HO_8.out
                    subst eo52
                    obtain ⟨Ao53, co53, eo53⟩ := Kd.R_slice HO_4.out
                    subst eo53
                    go_wp2_with (first | (go_at_call 29; (with_reducible refine (laws_eqIntS.calls kj10 _ _ t823 _ _ t813 true _ ?side1 ?side2 ?side3 ?side4 A47.out).mono ?_); (case side1 => repeat (first | exact (Kd.R_reads' HO_8.out).2.2 | (with_reducible refine Kd.C_alloc ?_ _) | (with_reducible refine Kd.C_drewN ?_ _) | (with_reducible refine Kd.C_drew ?_))); (case side2 => exact (Kd.R_reads' HO_8.out).2.1); (case side3 => repeat (first | exact (Kd.R_reads' HO_4.out).2.2 | (with_reducible refine Kd.C_alloc ?_ _) | (with_reducible refine Kd.C_drewN ?_ _) | (with_reducible refine Kd.C_drew ?_))); (case side4 => exact (Kd.R_reads' HO_4.out).2.1); rintro e w' ⟨rfl, ⟨nd, rfl⟩⟩))
                    go_meet
                    case rel => exact ⟨_, (true), (by first | rfl | (simp; done) | (simp [*]; done)), H', ⟨by have := HJ10.out; first | omega | exact Nat.le_refl _⟩, ⟨by (with_reducible repeat (first | apply Kd.R_alloc | apply Kd.R_drewN | apply Kd.R_drew)); exact Kd.R_mono HO_4.out (fun _ hk => by first | exact ⟨hk.1, hk.2.1⟩ | simp [hk])⟩, ⟨by (with_reducible repeat (first | apply Kd.R_alloc | apply Kd.R_drewN | apply Kd.R_drew)); exact Kd.R_mono HO_8.out (fun _ hk => by first | exact ⟨hk.1, hk.2.1⟩ | simp [hk])⟩, ⟨by (with_reducible repeat (first | apply Kd.R_alloc | apply Kd.R_drewN | apply Kd.R_drew)); exact Kd.R_mono HO_823001.out (fun _ hk => by first | exact ⟨hk.1.1, hk.1.2⟩ | simp [hk])⟩, ⟨by (with_reducible repeat (first | refine blk_drewN ?_ _ | refine blk_drew ?_ | refine blk_alloc ?_ _)); exact BK807.out⟩, ⟨by (with_reducible repeat (first | refine blk_drewN ?_ _ | refine blk_drew ?_ | refine blk_alloc ?_ _)); exact BK822.out⟩, ⟨by repeat (first | (with_reducible first | exact HB.out | apply below_alloc | apply pw_below_drewN | apply below_drew1 | refine below_set ?_ GE807.out | refine below_set ?_ GE822.out) | exact HB.out)⟩⟩
                · replace c48 := Bool.eq_false_iff.mpr c48
                  subst c48
                  have H1 : (none) = some r := by rw [if_neg (show ¬ (false = true) by decide)] at H; exact H
                  clear H
                  have H := H1
                  clear H1
                  exact absurd H (by simp)
            case rest =>
              clear HC38
              try clear c1
              try clear c2
              try clear p2
              try clear c3
              try clear c3b0
              try clear c4
              try clear c5
              try clear c15
              try clear c22
              try clear c23
              try clear c24
              try clear c27
              try clear c28
              try clear c28b0
              try clear c28b1
              try clear c29
              try clear c32
              try clear c33
              try clear c34
              try clear c36
              try clear c43
              try clear c46
              try clear c46b0
              try clear c48
              try clear c49
              try clear c49b0
              try clear c49b1
              try clear c52
              try clear c53
              try clear hcz13_0
              try clear hcz13_1
              try clear hcz15_0
              try clear hcz15_1
              try clear hcz19_0
              try clear hcz19_1
              try clear hcz23_0
              try clear hcz23_1
              try clear hcz44_0
              try clear hcz44_1
              try clear hcz5_0
              try clear hcz5_1
              try clear hfz13_0
              try clear hfz13_1
              try clear hfz15_0
              try clear hfz15_1
              try clear hfz19_0
              try clear hfz19_1
              try clear hfz23_0
              try clear hfz23_1
              try clear hfz44_0
              try clear hfz44_1
              try clear hfz5_0
              try clear hfz5_1
              try clear p2
              obtain ⟨kq, x76_37, rfl, HA, HJ37, HO_4, HO_8, HO_823001, BK807, BK822, HB⟩ := hcut
              have hl823001_37 := (Kd.R_reads' HO_823001.out).1
              rw [hl823001_37] at HO_823001
              (try simp only [hl823001_37])
              (try simp only [hl823001_37] at BK807)
              (try simp only [hl823001_37] at BK822)
              (try simp only [hl823001_37] at HO_4)
              (try simp only [hl823001_37] at HO_8)
              cases kq with
              | zero => exact absurd HA.out (by simp [laws_FnExactWorstOrder.j1])
              | succ kj37 =>
                have H := HA.out
                clear HA
                simp only [laws_FnExactWorstOrder.j1] at H
                by_cases c54 : x76_37 = true
                · subst c54
                  have H1 : (none) = some r := by rw [if_pos rfl] at H; exact H
                  clear H
                  have H := H1
                  clear H1
                  exact absurd H (by simp)
                · replace c54 := Bool.eq_false_iff.mpr c54
                  subst c54
                  have H1 : ((laws_markIntS.f kj37 t823 1).bind fun bt837 => ((laws_heldIntS.f kj37 bt837.2 1).bind fun t839 => (if t839 < 0 then (none) else (if t839 = bt837.1 then ((laws_toLadder.f kj37 a0_0 l0_1).bind fun bt840 => ((impl_WorstOrder.f kj37 bt840.1 bt840.2).bind fun bt844 => ((laws_eqIntS.f kj37 bt844.1 t813).bind fun t849 => (if t849 = true then (if bt844.2.1 = t816 then (laws_FnExactWorstOrder.j2 kj37 bt837.2 bt837.1 (bt844.2.2 != t817)) else (laws_FnExactWorstOrder.j2 kj37 bt837.2 bt837.1 true)) else (none))))) else (none))))) = some r := by rw [if_neg (show ¬ (false = true) by decide)] at H; exact H
                  clear H
                  have H := H1
                  clear H1
                  replace H := Option.bind_eq_some_iff.mp H
                  obtain ⟨⟨t837, t838⟩, A550, H⟩ := H
                  replace H : ((laws_heldIntS.f kj37 t838 1).bind fun t839 => (if t839 < 0 then (none) else (if t839 = t837 then ((laws_toLadder.f kj37 a0_0 l0_1).bind fun bt840 => ((impl_WorstOrder.f kj37 bt840.1 bt840.2).bind fun bt844 => ((laws_eqIntS.f kj37 bt844.1 t813).bind fun t849 => (if t849 = true then (if bt844.2.1 = t816 then (laws_FnExactWorstOrder.j2 kj37 t838 t837 (bt844.2.2 != t817)) else (laws_FnExactWorstOrder.j2 kj37 t838 t837 true)) else (none))))) else (none)))) = some r := H
                  have A55 := Aside0.mk A550
                  clear A550
                  replace H := Option.bind_eq_some_iff.mp H
                  obtain ⟨t839, A560, H⟩ := H
                  replace H : (if t839 < 0 then (none) else (if t839 = t837 then ((laws_toLadder.f kj37 a0_0 l0_1).bind fun bt840 => ((impl_WorstOrder.f kj37 bt840.1 bt840.2).bind fun bt844 => ((laws_eqIntS.f kj37 bt844.1 t813).bind fun t849 => (if t849 = true then (if bt844.2.1 = t816 then (laws_FnExactWorstOrder.j2 kj37 t838 t837 (bt844.2.2 != t817)) else (laws_FnExactWorstOrder.j2 kj37 t838 t837 true)) else (none))))) else (none))) = some r := H
                  have A56 := Aside0.mk A560
                  clear A560
                  by_cases c57 : t839 < 0
                  · rw [if_pos c57] at H
                    exact absurd H (by simp)
                  · rw [if_neg c57] at H
                    have c57b0 : decide (t839 < 0) = false := decide_eq_false c57
                    clear c57
                    by_cases c58 : t839 = t837
                    · rw [if_pos c58] at H
                      have c58b0 : (t839 == t837) = true := beq_iff_eq.mpr c58
                      have c58b1 : (t839 != t837) = false := bne_eq_false_iff_eq.mpr c58
                      clear c58
                      replace H := Option.bind_eq_some_iff.mp H
                      obtain ⟨⟨t840, t841⟩, A590, H⟩ := H
                      replace H : ((impl_WorstOrder.f kj37 t840 t841).bind fun bt844 => ((laws_eqIntS.f kj37 bt844.1 t813).bind fun t849 => (if t849 = true then (if bt844.2.1 = t816 then (laws_FnExactWorstOrder.j2 kj37 t838 t837 (bt844.2.2 != t817)) else (laws_FnExactWorstOrder.j2 kj37 t838 t837 true)) else (none)))) = some r := H
                      have A59 := Aside0.mk A590
                      clear A590
                      replace H := Option.bind_eq_some_iff.mp H
                      obtain ⟨⟨t844, t847, t848⟩, A600, H⟩ := H
                      replace H : ((laws_eqIntS.f kj37 t844 t813).bind fun t849 => (if t849 = true then (if t847 = t816 then (laws_FnExactWorstOrder.j2 kj37 t838 t837 (t848 != t817)) else (laws_FnExactWorstOrder.j2 kj37 t838 t837 true)) else (none))) = some r := H
                      have A60 := Aside0.mk A600
                      clear A600
                      have HC61 := Aside0.mk H
                      clear H
                      obtain ⟨Ao62, co62, eo62⟩ := Kd.R_slice HO_8.out
                      subst eo62
                      go_upto_region 25 with (first | ((with_reducible refine gate_callee (f := 36) rfl ?_); refine goesL_ (some 79) rfl rfl Try.func36 (by kernel_rfl) rfl #[.slice Ao62 t823.length co62, .int .i64 1] rfl (by (try simp only [List.map_toArray, List.map_cons, List.map_nil]); first | done | rfl | (simp only [List.length_drop, List.length_take]; rfl)) ?_; (with_reducible refine (laws_markIntS.calls kj37 (fun k_ => some k_ = (.slice Ao62 t823.length co62 : Value).ownBlock) (.slice Ao62 t823.length co62) t823 1 t837 t838 w _ ?side1 ?side2 A55.out).mono ?_); (case side1 => repeat (first | (with_reducible first | exact HB.out | apply below_alloc | apply pw_below_drewN | apply below_drew1 | refine below_set ?_ GE807.out | refine below_set ?_ GE822.out) | exact HB.out)); (case side2 => exact Kd.R_tight rfl HO_8.out); rintro e w63 ⟨rfl, hy0, hb, hkp⟩; refine ⟨_, rfl, ?_⟩; have n0_ := Aside0.mk (Kd.R_mono (ok' := fun k_ => some k_ ≠ (.slice Ao62 t823.length co62 : Value).ownBlock ∧ some k_ ≠ (.slice Ao24 t835.length co24 : Value).ownBlock) (Kd.R_keptB (HO_4.out) hkp (fun k_ hk_ hs_ => by first | exact (hk_.1) hs_ | exact absurd hs_ (by simp [hk_]))) (fun k_ hk_ => by first | exact ⟨hk_.1.1, hk_.1.2⟩ | simp [hk_])); have n1_ := Aside0.mk (Kd.R_reok rfl hy0 (fun k_ e_ => HO_8.out.1 k_ e_)); have n2_ := Aside0.mk (Kd.R_mono (ok' := fun k_ => some k_ ≠ (v814 : Value).ownBlock ∧ some k_ ≠ (.slice Ao62 t823.length co62 : Value).ownBlock) (Kd.R_keptB (HO_823001.out) hkp (fun k_ hk_ hs_ => by first | exact (hk_.2) hs_ | exact absurd hs_ (by simp [hk_]))) (fun k_ hk_ => by first | exact ⟨hk_.1.1, hk_.1.2⟩ | simp [hk_])); have n3_ := Aside0.mk (blk_kept (by (with_reducible repeat (first | refine blk_drewN ?_ _ | refine blk_drew ?_ | refine blk_alloc ?_ _)); exact BK807.out) hkp (fun hs_ => (fun e_ => (Kd.R_ne HO_8.out BK807.out (by decide)) e_) hs_)); have n4_ := Aside0.mk (blk_kept (by (with_reducible repeat (first | refine blk_drewN ?_ _ | refine blk_drew ?_ | refine blk_alloc ?_ _)); exact BK822.out) hkp (fun hs_ => (fun e_ => (Kd.R_ne HO_8.out BK822.out (by decide)) e_) hs_)); have n5_ := Aside0.mk (hb); clear HO_4; clear HO_8; clear HO_823001; clear BK807; clear BK822; clear HB; have HO_4 := n0_; have HO_8 := n1_; have HO_823001 := n2_; have BK807 := n3_; have BK822 := n4_; have HB := n5_; clear n0_ n1_ n2_ n3_ n4_ n5_; (try clear hb); (try clear hkp); (try clear hy0)) | ((with_reducible refine gate_callee (f := 37) rfl ?_); refine goesL_ (some 82) rfl rfl Try.func37 (by kernel_rfl) rfl #[.slice Ao62 t838.length co62, .int .i64 1] rfl (by (try simp only [List.map_toArray, List.map_cons, List.map_nil]); first | done | (rw [show t838.length = t823.length from (Kd.R_reads' HO_8.out).1.symm] <;> rfl) | rfl | (simp only [List.length_drop, List.length_take]; rfl)) ?_; (with_reducible refine (laws_heldIntS.calls kj37 _ _ t838 1 t839 _ ?side1 ?side2 A56.out).mono ?_); (case side1 => repeat (first | exact (Kd.R_reads' HO_8.out).2.2 | (with_reducible refine Kd.C_alloc ?_ _) | (with_reducible refine Kd.C_drewN ?_ _) | (with_reducible refine Kd.C_drew ?_))); (case side2 => rw [show t838.length = t823.length from (Kd.R_reads' HO_8.out).1.symm]; exact (Kd.R_reads' HO_8.out).2.1); rintro e w' ⟨rfl, ⟨nd, rfl⟩⟩; refine ⟨_, rfl, ?_⟩; have hnb64 := NB807_822.out; have hnc64 := NB822_807.out; have hcz65_0 : w63.cell? ⟨gb807, 0, none⟩ = some (.int .i64 a0_0) := (blk_cell BK807.out 0).trans rfl; have hcz65_1 : w63.cell? ⟨gb807, 1, none⟩ = some (.slice A0_1 l0_1.length c0_1) := (blk_cell BK807.out 1).trans rfl; have hfz65_0 := blk_frozen BK807.out 0; have hfz65_1 := blk_frozen BK807.out 1) | ((with_reducible refine gate_callee (f := 34) rfl ?_); refine goesL_ (some 90) rfl rfl Try.func34 (by kernel_rfl) rfl #[.agg #[.int .i64 a0_0, .slice A0_1 l0_1.length c0_1]] rfl (by (try simp only [List.map_toArray, List.map_cons, List.map_nil]); first | done | rfl | (simp only [List.length_drop, List.length_take]; rfl)) ?_; (with_reducible refine (laws_toLadder.calls kj37 a0_0 _ _ l0_1 t840 t841 _ ?side1 ?side2 A59.out).mono ?_); (case side1 => repeat (first | exact (Kd.C_below HR0_1.out (by repeat (first | (with_reducible first | exact HB.out | apply below_alloc | apply pw_below_drewN | apply below_drew1 | refine below_set ?_ GE807.out | refine below_set ?_ GE822.out) | exact HB.out))) | (with_reducible refine Kd.C_alloc ?_ _) | (with_reducible refine Kd.C_drewN ?_ _) | (with_reducible refine Kd.C_drew ?_))); (case side2 => exact HC0_1.out); rintro e w66 ⟨v842, rfl, ho0, hb⟩; refine ⟨_, rfl, ?_⟩; have n0_ := Aside0.mk (Kd.R_elder' (by (with_reducible repeat (first | apply Kd.R_alloc | apply Kd.R_drewN | apply Kd.R_drew)); exact HO_4.out) (Kd.R_base ho0) hb); have n1_ := Aside0.mk (Kd.R_elder' (by (with_reducible repeat (first | apply Kd.R_alloc | apply Kd.R_drewN | apply Kd.R_drew)); exact HO_8.out) (Kd.R_base ho0) hb); have n2_ := Aside0.mk (Kd.R_elder' (by (with_reducible repeat (first | apply Kd.R_alloc | apply Kd.R_drewN | apply Kd.R_drew)); exact HO_823001.out) (Kd.R_base ho0) hb); have n3_ := Aside0.mk (Kd.R_lower (Kd.R_new' (Kd.R_new' (Kd.R_new' ho0 (Kd.R_lt (by (with_reducible repeat (first | apply Kd.R_alloc | apply Kd.R_drewN | apply Kd.R_drew)); exact HO_4.out))) (Kd.R_lt (by (with_reducible repeat (first | apply Kd.R_alloc | apply Kd.R_drewN | apply Kd.R_drew)); exact HO_8.out))) (Kd.R_lt (by (with_reducible repeat (first | apply Kd.R_alloc | apply Kd.R_drewN | apply Kd.R_drew)); exact HO_823001.out))) (below_size (by repeat (first | (with_reducible first | exact HB.out | apply below_alloc | apply pw_below_drewN | apply below_drew1 | refine below_set ?_ GE807.out | refine below_set ?_ GE822.out) | exact HB.out)))); have n4_ := Aside0.mk (blk_below (g := gb807) (o := .cells #[.int .i64 a0_0, .slice A0_1 l0_1.length c0_1] 38 (0, 0)) (by (with_reducible repeat (first | refine blk_drewN ?_ _ | refine blk_drew ?_ | refine blk_alloc ?_ _)); exact BK807.out) hb); have n5_ := Aside0.mk (blk_below (g := gb822) (o := .cells #[.int .i64 t818, .slice Ao24 t835.length co24] 27 (0, 0)) (by (with_reducible repeat (first | refine blk_drewN ?_ _ | refine blk_drew ?_ | refine blk_alloc ?_ _)); exact BK822.out) hb); have n6_ := Aside0.mk (below_step (by repeat (first | (with_reducible first | exact HB.out | apply below_alloc | apply pw_below_drewN | apply below_drew1 | refine below_set ?_ GE807.out | refine below_set ?_ GE822.out) | exact HB.out)) hb); clear HO_4; clear HO_8; clear HO_823001; clear BK807; clear BK822; clear HB; have HO_4 := n0_; have HO_8 := n1_; have HO_823001 := n2_; have HO843 := n3_; have BK807 := n4_; have BK822 := n5_; have HB := n6_; clear n0_ n1_ n2_ n3_ n4_ n5_ n6_; (try clear hb); (try clear hb2); (try clear hk); (try clear hi); (try clear ho0); obtain ⟨Ao67, co67, eo67⟩ := Kd.R_slice HO843.out; subst eo67) | ((with_reducible refine gate_callee (f := 53) rfl ?_); refine goesL_ (some 91) rfl rfl Try.func53 (by kernel_rfl) rfl #[.agg #[.int .i64 t840, .slice Ao67 t841.length co67]] rfl (by (try simp only [List.map_toArray, List.map_cons, List.map_nil]); first | done | rfl | (simp only [List.length_drop, List.length_take]; rfl)) ?_; (with_reducible refine (impl_WorstOrder.calls kj37 t840 _ _ t841 t844 t847 t848 _ ?side1 ?side2 A60.out).mono ?_); (case side1 => repeat (first | exact (Kd.R_reads' HO843.out).2.2 | (with_reducible refine Kd.C_alloc ?_ _) | (with_reducible refine Kd.C_drewN ?_ _) | (with_reducible refine Kd.C_drew ?_))); (case side2 => exact (Kd.R_reads' HO843.out).2.1); rintro e w68 ⟨v845, rfl, ho0, hb⟩; refine ⟨_, rfl, ?_⟩; have n0_ := Aside0.mk (Kd.R_elder' (by (with_reducible repeat (first | apply Kd.R_alloc | apply Kd.R_drewN | apply Kd.R_drew)); exact HO_4.out) (Kd.R_base ho0) hb); have n1_ := Aside0.mk (Kd.R_elder' (by (with_reducible repeat (first | apply Kd.R_alloc | apply Kd.R_drewN | apply Kd.R_drew)); exact HO_8.out) (Kd.R_base ho0) hb); have n2_ := Aside0.mk (Kd.R_elder' (by (with_reducible repeat (first | apply Kd.R_alloc | apply Kd.R_drewN | apply Kd.R_drew)); exact HO_823001.out) (Kd.R_base ho0) hb); have n3_ := Aside0.mk (Kd.R_elder' (by (with_reducible repeat (first | apply Kd.R_alloc | apply Kd.R_drewN | apply Kd.R_drew)); exact HO843.out) (Kd.R_base ho0) hb); have n4_ := Aside0.mk (Kd.R_lower (Kd.R_new' (Kd.R_new' (Kd.R_new' (Kd.R_new' ho0 (Kd.R_lt (by (with_reducible repeat (first | apply Kd.R_alloc | apply Kd.R_drewN | apply Kd.R_drew)); exact HO_4.out))) (Kd.R_lt (by (with_reducible repeat (first | apply Kd.R_alloc | apply Kd.R_drewN | apply Kd.R_drew)); exact HO_8.out))) (Kd.R_lt (by (with_reducible repeat (first | apply Kd.R_alloc | apply Kd.R_drewN | apply Kd.R_drew)); exact HO_823001.out))) (Kd.R_lt (by (with_reducible repeat (first | apply Kd.R_alloc | apply Kd.R_drewN | apply Kd.R_drew)); exact HO843.out))) (below_size (by repeat (first | (with_reducible first | exact HB.out | apply below_alloc | apply pw_below_drewN | apply below_drew1 | refine below_set ?_ GE807.out | refine below_set ?_ GE822.out) | exact HB.out)))); have n5_ := Aside0.mk (blk_below (g := gb807) (o := .cells #[.int .i64 a0_0, .slice A0_1 l0_1.length c0_1] 38 (0, 0)) (by (with_reducible repeat (first | refine blk_drewN ?_ _ | refine blk_drew ?_ | refine blk_alloc ?_ _)); exact BK807.out) hb); have n6_ := Aside0.mk (blk_below (g := gb822) (o := .cells #[.int .i64 t818, .slice Ao24 t835.length co24] 27 (0, 0)) (by (with_reducible repeat (first | refine blk_drewN ?_ _ | refine blk_drew ?_ | refine blk_alloc ?_ _)); exact BK822.out) hb); have n7_ := Aside0.mk (below_step (by repeat (first | (with_reducible first | exact HB.out | apply below_alloc | apply pw_below_drewN | apply below_drew1 | refine below_set ?_ GE807.out | refine below_set ?_ GE822.out) | exact HB.out)) hb); clear HO_4; clear HO_8; clear HO_823001; clear HO843; clear BK807; clear BK822; clear HB; have HO_4 := n0_; have HO_8 := n1_; have HO_823001 := n2_; have HO843 := n3_; have HO846 := n4_; have BK807 := n5_; have BK822 := n6_; have HB := n7_; clear n0_ n1_ n2_ n3_ n4_ n5_ n6_ n7_; (try clear hb); (try clear hb2); (try clear hk); (try clear hi); (try clear ho0)))
                      (try simp only [Act.put, List.setIfInBounds_toArray, List.set_cons_zero, List.set_cons_succ])
                      go_cut [108] (fun v108 wc => ∃ (kq : Nat) (x108_60 : Bool), v108 = .bool x108_60 ∧ Aside0 (laws_FnExactWorstOrder.j2 kq t838 t837 x108_60 = some r) ∧ Aside0 (kq ≤ kj37) ∧ Aside0 (Kd.R (Kd.int .i64) 3 wc w.heap.size (fun k_ => some k_ ≠ ((.slice Ao24 t835.length co24) : Value).ownBlock) (.slice Ao62 t823.length co62) t838) ∧ Aside0 (Kd.R (Kd.int .i64) 3 wc w.heap.size (fun k_ => some k_ ≠ ((.slice Ao62 t823.length co62) : Value).ownBlock) (.slice Ao24 t835.length co24) t835) ∧ Aside0 (wc.heap[gb807]? = some (.cells #[.int .i64 a0_0, (.slice A0_1 l0_1.length c0_1)] 38 (0, 0))) ∧ Aside0 (wc.heap[gb822]? = some (.cells #[.int .i64 t818, (.slice Ao24 t835.length co24)] 27 (0, 0))) ∧ Aside0 (Below w.heap.size w wc))
                      case first =>
                        have H := HC61.out
                        clear HC61
                        replace H := Option.bind_eq_some_iff.mp H
                        obtain ⟨t849, A690, H⟩ := H
                        replace H : (if t849 = true then (if t847 = t816 then (laws_FnExactWorstOrder.j2 kj37 t838 t837 (t848 != t817)) else (laws_FnExactWorstOrder.j2 kj37 t838 t837 true)) else (none)) = some r := H
                        have A69 := Aside0.mk A690
                        clear A690
                        by_cases c70 : t849 = true
                        · subst c70
                          have H1 : (if t847 = t816 then (laws_FnExactWorstOrder.j2 kj37 t838 t837 (t848 != t817)) else (laws_FnExactWorstOrder.j2 kj37 t838 t837 true)) = some r := by rw [if_pos rfl] at H; exact H
                          clear H
                          have H := H1
                          clear H1
                          by_cases c71 : t847 = t816
                          · rw [if_pos c71] at H
                            have c71b0 : (t847 == t816) = true := beq_iff_eq.mpr c71
                            have c71b1 : (t847 != t816) = false := bne_eq_false_iff_eq.mpr c71
                            clear c71
                            (first | rw [c71b0] | (simp only [i64_w, i32_w]; rw [c71b0]) | skip)
                            have H' := Aside0.mk H
                            clear H
                            obtain ⟨Ao72, co72, eo72⟩ := Kd.R_slice HO846.out
                            subst eo72
                            obtain ⟨Ao73, co73, eo73⟩ := Kd.R_slice HO_4.out
                            subst eo73
                            go_wp2_with (first | ((with_reducible refine gate_callee (f := 29) rfl ?_); refine goesL_ (some 97) rfl rfl Try.func29 (by kernel_rfl) rfl #[.slice Ao72 t844.length co72, .slice Ao73 t813.length co73] rfl (by (try simp only [List.map_toArray, List.map_cons, List.map_nil]); first | done | rfl | (simp only [List.length_drop, List.length_take]; rfl)) ?_; (with_reducible refine (laws_eqIntS.calls kj37 _ _ t844 _ _ t813 true _ ?side1 ?side2 ?side3 ?side4 A69.out).mono ?_); (case side1 => repeat (first | exact (Kd.R_reads' HO846.out).2.2 | (with_reducible refine Kd.C_alloc ?_ _) | (with_reducible refine Kd.C_drewN ?_ _) | (with_reducible refine Kd.C_drew ?_))); (case side2 => exact (Kd.R_reads' HO846.out).2.1); (case side3 => repeat (first | exact (Kd.R_reads' HO_4.out).2.2 | (with_reducible refine Kd.C_alloc ?_ _) | (with_reducible refine Kd.C_drewN ?_ _) | (with_reducible refine Kd.C_drew ?_))); (case side4 => exact (Kd.R_reads' HO_4.out).2.1); rintro e w' ⟨rfl, ⟨nd, rfl⟩⟩; refine ⟨_, rfl, ?_⟩))
                            go_meet
                            case rel => exact ⟨_, ((t848 != t817)), (by first | rfl | (simp; done) | (simp [*]; done)), H', ⟨by have := HJ10.out; have := HJ37.out; first | omega | exact Nat.le_refl _⟩, ⟨by (try simp only [hl823001_37]); (with_reducible repeat (first | apply Kd.R_alloc | apply Kd.R_drewN | apply Kd.R_drew)); exact Kd.R_mono HO_8.out (fun _ hk => by first | exact hk.1.1.2 | simp [hk])⟩, ⟨by (try simp only [hl823001_37]); (with_reducible repeat (first | apply Kd.R_alloc | apply Kd.R_drewN | apply Kd.R_drew)); exact Kd.R_mono HO_823001.out (fun _ hk => by first | exact hk.1.1.2 | simp [hk])⟩, ⟨by (try simp only [hl823001_37]); (with_reducible repeat (first | refine blk_drewN ?_ _ | refine blk_drew ?_ | refine blk_alloc ?_ _)); exact BK807.out⟩, ⟨by (try simp only [hl823001_37]); (with_reducible repeat (first | refine blk_drewN ?_ _ | refine blk_drew ?_ | refine blk_alloc ?_ _)); exact BK822.out⟩, ⟨by repeat (first | (with_reducible first | exact HB.out | apply below_alloc | apply pw_below_drewN | apply below_drew1 | refine below_set ?_ GE807.out | refine below_set ?_ GE822.out) | exact HB.out)⟩⟩
                          · rw [if_neg c71] at H
                            have c71b0 : (t847 == t816) = false := beq_eq_false_iff_ne.mpr c71
                            have c71b1 : (t847 != t816) = true := bne_iff_ne.mpr c71
                            (first | rw [c71b0] | (simp only [i64_w, i32_w]; rw [c71b0]) | skip)
                            have H' := Aside0.mk H
                            clear H
                            obtain ⟨Ao74, co74, eo74⟩ := Kd.R_slice HO846.out
                            subst eo74
                            obtain ⟨Ao75, co75, eo75⟩ := Kd.R_slice HO_4.out
                            subst eo75
                            go_wp2_with (first | ((with_reducible refine gate_callee (f := 29) rfl ?_); refine goesL_ (some 97) rfl rfl Try.func29 (by kernel_rfl) rfl #[.slice Ao74 t844.length co74, .slice Ao75 t813.length co75] rfl (by (try simp only [List.map_toArray, List.map_cons, List.map_nil]); first | done | rfl | (simp only [List.length_drop, List.length_take]; rfl)) ?_; (with_reducible refine (laws_eqIntS.calls kj37 _ _ t844 _ _ t813 true _ ?side1 ?side2 ?side3 ?side4 A69.out).mono ?_); (case side1 => repeat (first | exact (Kd.R_reads' HO846.out).2.2 | (with_reducible refine Kd.C_alloc ?_ _) | (with_reducible refine Kd.C_drewN ?_ _) | (with_reducible refine Kd.C_drew ?_))); (case side2 => exact (Kd.R_reads' HO846.out).2.1); (case side3 => repeat (first | exact (Kd.R_reads' HO_4.out).2.2 | (with_reducible refine Kd.C_alloc ?_ _) | (with_reducible refine Kd.C_drewN ?_ _) | (with_reducible refine Kd.C_drew ?_))); (case side4 => exact (Kd.R_reads' HO_4.out).2.1); rintro e w' ⟨rfl, ⟨nd, rfl⟩⟩; refine ⟨_, rfl, ?_⟩))
                            go_meet
                            case rel => exact ⟨_, (true), (by first | rfl | (simp; done) | (simp [*]; done)), H', ⟨by have := HJ10.out; have := HJ37.out; first | omega | exact Nat.le_refl _⟩, ⟨by (try simp only [hl823001_37]); (with_reducible repeat (first | apply Kd.R_alloc | apply Kd.R_drewN | apply Kd.R_drew)); exact Kd.R_mono HO_8.out (fun _ hk => by first | exact hk.1.1.2 | simp [hk])⟩, ⟨by (try simp only [hl823001_37]); (with_reducible repeat (first | apply Kd.R_alloc | apply Kd.R_drewN | apply Kd.R_drew)); exact Kd.R_mono HO_823001.out (fun _ hk => by first | exact hk.1.1.2 | simp [hk])⟩, ⟨by (try simp only [hl823001_37]); (with_reducible repeat (first | refine blk_drewN ?_ _ | refine blk_drew ?_ | refine blk_alloc ?_ _)); exact BK807.out⟩, ⟨by (try simp only [hl823001_37]); (with_reducible repeat (first | refine blk_drewN ?_ _ | refine blk_drew ?_ | refine blk_alloc ?_ _)); exact BK822.out⟩, ⟨by repeat (first | (with_reducible first | exact HB.out | apply below_alloc | apply pw_below_drewN | apply below_drew1 | refine below_set ?_ GE807.out | refine below_set ?_ GE822.out) | exact HB.out)⟩⟩
                        · replace c70 := Bool.eq_false_iff.mpr c70
                          subst c70
                          have H1 : (none) = some r := by rw [if_neg (show ¬ (false = true) by decide)] at H; exact H
                          clear H
                          have H := H1
                          clear H1
                          exact absurd H (by simp)
                      case rest =>
                        clear HC61
                        try clear c1
                        try clear c2
                        try clear p2
                        try clear c3
                        try clear c3b0
                        try clear c4
                        try clear c5
                        try clear c6
                        try clear c7
                        try clear c15
                        try clear c22
                        try clear c23
                        try clear c24
                        try clear c27
                        try clear c28
                        try clear c28b0
                        try clear c28b1
                        try clear c29
                        try clear c32
                        try clear c33
                        try clear c34
                        try clear c36
                        try clear c37
                        try clear c43
                        try clear c46
                        try clear c46b0
                        try clear c48
                        try clear c49
                        try clear c49b0
                        try clear c49b1
                        try clear c52
                        try clear c53
                        try clear c54
                        try clear c57
                        try clear c57b0
                        try clear c58
                        try clear c58b0
                        try clear c58b1
                        try clear c64
                        try clear c70
                        try clear c71
                        try clear c71b0
                        try clear c71b1
                        try clear hcz13_0
                        try clear hcz13_1
                        try clear hcz15_0
                        try clear hcz15_1
                        try clear hcz19_0
                        try clear hcz19_1
                        try clear hcz23_0
                        try clear hcz23_1
                        try clear hcz44_0
                        try clear hcz44_1
                        try clear hcz5_0
                        try clear hcz5_1
                        try clear hcz65_0
                        try clear hcz65_1
                        try clear hfz13_0
                        try clear hfz13_1
                        try clear hfz15_0
                        try clear hfz15_1
                        try clear hfz19_0
                        try clear hfz19_1
                        try clear hfz23_0
                        try clear hfz23_1
                        try clear hfz44_0
                        try clear hfz44_1
                        try clear hfz5_0
                        try clear hfz5_1
                        try clear hfz65_0
                        try clear hfz65_1
                        try clear p2
                        obtain ⟨kq, x108_60, rfl, HA, HJ60, HO_8, HO_823001, BK807, BK822, HB⟩ := hcut
                        have hl8_60 := (Kd.R_reads' HO_8.out).1
                        rw [hl8_60] at HO_8
                        (try simp only [hl8_60])
                        (try simp only [hl8_60] at BK807)
                        (try simp only [hl8_60] at BK822)
                        (try simp only [hl8_60] at HO_823001)
                        cases kq with
                        | zero => exact absurd HA.out (by simp [laws_FnExactWorstOrder.j2])
                        | succ kj60 =>
                          have H := HA.out
                          clear HA
                          simp only [laws_FnExactWorstOrder.j2] at H
                          by_cases c76 : x108_60 = true
                          · subst c76
                            have H1 : (none) = some r := by rw [if_pos rfl] at H; exact H
                            clear H
                            have H := H1
                            clear H1
                            exact absurd H (by simp)
                          · replace c76 := Bool.eq_false_iff.mpr c76
                            subst c76
                            have H1 : ((laws_heldIntS.f kj60 t838 1).bind fun t850 => (if t850 < 0 then (none) else (if t850 = t837 then (some true) else (none)))) = some r := by rw [if_neg (show ¬ (false = true) by decide)] at H; exact H
                            clear H
                            have H := H1
                            clear H1
                            replace H := Option.bind_eq_some_iff.mp H
                            obtain ⟨t850, A770, H⟩ := H
                            replace H : (if t850 < 0 then (none) else (if t850 = t837 then (some true) else (none))) = some r := H
                            have A77 := Aside0.mk A770
                            clear A770
                            by_cases c78 : t850 < 0
                            · rw [if_pos c78] at H
                              exact absurd H (by simp)
                            · rw [if_neg c78] at H
                              have c78b0 : decide (t850 < 0) = false := decide_eq_false c78
                              clear c78
                              by_cases c79 : t850 = t837
                              · rw [if_pos c79] at H
                                have c79b0 : (t850 == t837) = true := beq_iff_eq.mpr c79
                                have c79b1 : (t850 != t837) = false := bne_eq_false_iff_eq.mpr c79
                                clear c79
                                obtain rfl := Option.some.inj H
                                go_wp2_with (first | ((with_reducible refine gate_callee (f := 37) rfl ?_); refine goesL_ (some 111) rfl rfl Try.func37 (by kernel_rfl) rfl #[.slice Ao62 t838.length co62, .int .i64 1] rfl (by (try simp only [List.map_toArray, List.map_cons, List.map_nil]); first | done | rfl | (simp only [List.length_drop, List.length_take]; rfl)) ?_; (with_reducible refine (laws_heldIntS.calls kj60 _ _ t838 1 t850 _ ?side1 ?side2 A77.out).mono ?_); (case side1 => repeat (first | exact (Kd.R_reads' HO_8.out).2.2 | (with_reducible refine Kd.C_alloc ?_ _) | (with_reducible refine Kd.C_drewN ?_ _) | (with_reducible refine Kd.C_drew ?_))); (case side2 => exact (Kd.R_reads' HO_8.out).2.1); rintro e w' ⟨rfl, ⟨nd, rfl⟩⟩; refine ⟨_, rfl, ?_⟩))
                                go_ret
                                exact ⟨by first | rfl | (simp [errW_none, errW_some] <;> rfl) | (simp [*, errW_none, errW_some] <;> rfl), by repeat (first | (with_reducible first | exact HB.out | apply below_alloc | apply pw_below_drewN | apply below_drew1 | refine below_set ?_ GE807.out | refine below_set ?_ GE822.out) | exact HB.out)⟩
                              · rw [if_neg c79] at H
                                exact absurd H (by simp)
                    · rw [if_neg c58] at H
                      exact absurd H (by simp)
          · replace c36 := Bool.eq_false_iff.mpr c36
            subst c36
            have H1 : (none) = some r := by rw [if_neg (show ¬ (false = true) by decide)] at H; exact H
            clear H
            have H := H1
            clear H1
            exact absurd H (by simp)

end Go.Proofs.Ytmljdibhdnckpaa.Q
