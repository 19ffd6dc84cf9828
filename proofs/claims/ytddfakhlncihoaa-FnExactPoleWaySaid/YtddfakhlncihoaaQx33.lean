/- Each function below comes to the Lean function beside it (theorems '.calls'); no condition beyond each theorem's own. Written by our program oprint.py over the kit's print. -/
import Derived.Test.YtddfakhlncihoaaQx0
import Derived.Test.YtddfakhlncihoaaQx1
import Derived.Test.YtddfakhlncihoaaQx5
import Derived.Test.YtddfakhlncihoaaQx8
import Derived.Test.YtddfakhlncihoaaQx32
namespace Go.Proofs.Ytddfakhlncihoaa.Q
open Go.RowKit Go.Proofs.YtddfakhlncihoaaW.PrintWords Go.Proofs.YtddfakhlncihoaaW.PrintLast Go.Proofs.YtddfakhlncihoaaW.PrintMore
attribute [local go_sem] max2_int min2_int max_two min_two max_three min_three max_four min_four   -- for this text's walks alone
set_option linter.unusedVariables false
set_option linter.unusedSimpArgs false

/-! ### laws_FnExactPoleWay: function 12 -/
def laws_FnExactPoleWay.j0 : Nat → Int → List Int → Bool → List Int → Bool → Int → List Int → Option (Bool)
  | 0, _, _, _, _, _, _, _ => none
  | k + 1, x1, x6, x7, x9, x65, x682000, x682001 => if x65 = true then (none) else ((laws_markIntS.f k x9 1).bind fun bt709 => ((laws_heldIntS.f k bt709.2 1).bind fun t711 => (if t711 < 0 then (none) else (if t711 = bt709.1 then ((laws_toPole.f k x682000 x682001).bind fun bt712 => ((impl_PoleWay.f k bt712.1 bt712.2 x1).bind fun bt716 => ((laws_eqIntS.f k bt716.1 x6).bind fun t720 => (if t720 = true then (if (bt716.2 != x7) = true then (none) else ((laws_heldIntS.f k bt709.2 1).bind fun t721 => (if t721 < 0 then (none) else (if t721 = bt709.1 then (some true) else (none))))) else (none))))) else (none)))))
def laws_FnExactPoleWay.f (k : Nat) (a0_0 : Int) (l0_1 : List Int) (a1 : Int) : Option (Bool) := (laws_szPole.f a0_0 l0_1 1048576).bind fun t682 => (if t682 < 0 then (some true) else ((laws_toPole.f k a0_0 l0_1).bind fun bt683 => ((spec_PoleWay.f k bt683.1 bt683.2 a1).bind fun bt687 => ((laws_toPole.f k a0_0 l0_1).bind fun bt691 => ((impl_PoleWay.f k bt691.1 bt691.2 a1).bind fun bt696 => ((laws_eqIntS.f k bt696.1 bt687.1).bind fun t700 => (if t700 = true then (if (bt696.2 != bt687.2) = true then (none) else ((laws_toPole.f k a0_0 l0_1).bind fun bt701 => ((laws_eqPole.f k bt691.1 bt691.2 bt701.1 bt701.2).bind fun t705 => (if t705 = true then ((laws_markPole.f k bt691.1 bt691.2 1).bind fun bt706 => (if bt706.1 < 0 then (laws_FnExactPoleWay.j0 k a1 bt687.1 bt687.2 bt696.1 true a0_0 l0_1) else ((laws_eqIntS.f k bt696.1 bt687.1).bind fun t708 => (if t708 = true then (laws_FnExactPoleWay.j0 k a1 bt687.1 bt687.2 bt696.1 (bt696.2 != bt687.2) a0_0 l0_1) else (none))))) else (none))))) else (none))))))))
theorem laws_FnExactPoleWay.mono_l : ∀ k, (∀ y0 y1 y2 y3 y4 y5 y6, LeO (laws_FnExactPoleWay.j0 k y0 y1 y2 y3 y4 y5 y6) (laws_FnExactPoleWay.j0 (k + 1) y0 y1 y2 y3 y4 y5 y6))
  | 0 => fun _ _ _ _ _ _ _ r h => by simp [laws_FnExactPoleWay.j0] at h
  | k + 1 => by
    have ih0 := laws_FnExactPoleWay.mono_l k
    · intro y0 y1 y2 y3 y4 y5 y6
      unfold laws_FnExactPoleWay.j0
      repeat' first
      | (with_reducible exact ih0 _ _ _ _ _ _ _)
      | (with_reducible exact impl_PoleWay.mono _ _ _ _)
      | (with_reducible exact laws_eqIntS.mono _ _ _)
      | (with_reducible exact laws_eqPole.mono _ _ _ _ _)
      | (with_reducible exact laws_heldIntS.mono _ _ _)
      | (with_reducible exact laws_markIntS.mono _ _ _)
      | (with_reducible exact laws_markPole.mono _ _ _ _)
      | (with_reducible exact laws_toPole.mono _ _ _)
      | (with_reducible exact spec_PoleWay.mono _ _ _ _)
      | (with_reducible exact LeO.refl _)
      | (with_reducible exact LeO.none _)
      | (with_reducible refine LeO.ite ?_ ?_)
      | (with_reducible refine LeO.bind ?_ (fun _ => ?_))
      | exact ih0 _ _ _ _ _ _ _
      | exact impl_PoleWay.mono _ _ _ _
      | exact laws_eqIntS.mono _ _ _
      | exact laws_eqPole.mono _ _ _ _ _
      | exact laws_heldIntS.mono _ _ _
      | exact laws_markIntS.mono _ _ _
      | exact laws_markPole.mono _ _ _ _
      | exact laws_toPole.mono _ _ _
      | exact spec_PoleWay.mono _ _ _ _
      | exact LeO.none _
      | refine LeO.ite ?_ ?_
      | refine LeO.bind ?_ (fun _ => ?_)
theorem laws_FnExactPoleWay.mono : ∀ a0 a1 a2 k, LeO (laws_FnExactPoleWay.f k a0 a1 a2) (laws_FnExactPoleWay.f (k + 1) a0 a1 a2) := by
  intro a0 a1 a2 k
  have ih0 := laws_FnExactPoleWay.mono_l k
  unfold laws_FnExactPoleWay.f
  repeat' first
      | (with_reducible exact ih0 _ _ _ _ _ _ _)
      | (with_reducible exact impl_PoleWay.mono _ _ _ _)
      | (with_reducible exact laws_eqIntS.mono _ _ _)
      | (with_reducible exact laws_eqPole.mono _ _ _ _ _)
      | (with_reducible exact laws_heldIntS.mono _ _ _)
      | (with_reducible exact laws_markIntS.mono _ _ _)
      | (with_reducible exact laws_markPole.mono _ _ _ _)
      | (with_reducible exact laws_toPole.mono _ _ _)
      | (with_reducible exact spec_PoleWay.mono _ _ _ _)
      | (with_reducible exact LeO.refl _)
      | (with_reducible exact LeO.none _)
      | (with_reducible refine LeO.ite ?_ ?_)
      | (with_reducible refine LeO.bind ?_ (fun _ => ?_))
      | exact ih0 _ _ _ _ _ _ _
      | exact impl_PoleWay.mono _ _ _ _
      | exact laws_eqIntS.mono _ _ _
      | exact laws_eqPole.mono _ _ _ _ _
      | exact laws_heldIntS.mono _ _ _
      | exact laws_markIntS.mono _ _ _
      | exact laws_markPole.mono _ _ _ _
      | exact laws_toPole.mono _ _ _
      | exact spec_PoleWay.mono _ _ _ _
      | exact LeO.none _
      | refine LeO.ite ?_ ?_
      | refine LeO.bind ?_ (fun _ => ?_)
set_option maxHeartbeats 8000000 in
set_option maxRecDepth 100000 in
theorem laws_FnExactPoleWay.calls (k : Nat) (a0_0 : Int) (A0_1 : Option Addr) (c0_1 : Nat) (l0_1 : List Int) (a1 : Int) (r : Bool) (w : World) (hr0_1 : Kd.C (Kd.int .i64) w A0_1 l0_1.length l0_1) (hc0_1 : l0_1.length ≤ c0_1) (h : laws_FnExactPoleWay.f k a0_0 l0_1 a1 = some r) :
    Calls Try.prog 12 #[.agg #[.int .i64 a0_0, .slice A0_1 l0_1.length c0_1], .int .i64 a1] w fun e w' => e = .returned (.bool r) ∧ Below w.heap.size w w' := by
  have hu24 := Try.underlying24
  have hu27 := Try.underlying27
  have HR0_1 := Aside0.mk hr0_1
  have HC0_1 := Aside0.mk hc0_1
  clear hr0_1 hc0_1
  have HB := Aside0.mk (Below.refl w.heap.size w)
  have H : ((laws_szPole.f a0_0 l0_1 1048576).bind fun t682 => (if t682 < 0 then (some true) else ((laws_toPole.f k a0_0 l0_1).bind fun bt683 => ((spec_PoleWay.f k bt683.1 bt683.2 a1).bind fun bt687 => ((laws_toPole.f k a0_0 l0_1).bind fun bt691 => ((impl_PoleWay.f k bt691.1 bt691.2 a1).bind fun bt696 => ((laws_eqIntS.f k bt696.1 bt687.1).bind fun t700 => (if t700 = true then (if (bt696.2 != bt687.2) = true then (none) else ((laws_toPole.f k a0_0 l0_1).bind fun bt701 => ((laws_eqPole.f k bt691.1 bt691.2 bt701.1 bt701.2).bind fun t705 => (if t705 = true then ((laws_markPole.f k bt691.1 bt691.2 1).bind fun bt706 => (if bt706.1 < 0 then (laws_FnExactPoleWay.j0 k a1 bt687.1 bt687.2 bt696.1 true a0_0 l0_1) else ((laws_eqIntS.f k bt696.1 bt687.1).bind fun t708 => (if t708 = true then (laws_FnExactPoleWay.j0 k a1 bt687.1 bt687.2 bt696.1 (bt696.2 != bt687.2) a0_0 l0_1) else (none))))) else (none))))) else (none))))))))) = some r := h
  clear h
  replace H := Option.bind_eq_some_iff.mp H
  obtain ⟨t682, A30, H⟩ := H
  replace H : (if t682 < 0 then (some true) else ((laws_toPole.f k a0_0 l0_1).bind fun bt683 => ((spec_PoleWay.f k bt683.1 bt683.2 a1).bind fun bt687 => ((laws_toPole.f k a0_0 l0_1).bind fun bt691 => ((impl_PoleWay.f k bt691.1 bt691.2 a1).bind fun bt696 => ((laws_eqIntS.f k bt696.1 bt687.1).bind fun t700 => (if t700 = true then (if (bt696.2 != bt687.2) = true then (none) else ((laws_toPole.f k a0_0 l0_1).bind fun bt701 => ((laws_eqPole.f k bt691.1 bt691.2 bt701.1 bt701.2).bind fun t705 => (if t705 = true then ((laws_markPole.f k bt691.1 bt691.2 1).bind fun bt706 => (if bt706.1 < 0 then (laws_FnExactPoleWay.j0 k a1 bt687.1 bt687.2 bt696.1 true a0_0 l0_1) else ((laws_eqIntS.f k bt696.1 bt687.1).bind fun t708 => (if t708 = true then (laws_FnExactPoleWay.j0 k a1 bt687.1 bt687.2 bt696.1 (bt696.2 != bt687.2) a0_0 l0_1) else (none))))) else (none))))) else (none)))))))) = some r := H
  have A3 := Aside0.mk A30
  clear A30
  by_cases c4 : t682 < 0
  · rw [if_pos c4] at H
    have c4b0 : decide (t682 < 0) = true := decide_eq_true c4
    clear c4
    obtain rfl := Option.some.inj H
    go_enter Try.func12, Try.ntmps12
    go_wp2_with (first | ((with_reducible refine gate_dst (N := 2) rfl ?_); refine box_event ?hg (N := 2) ?hd (cs := #[.int .i64 a0_0, .slice A0_1 l0_1.length c0_1]) (t := 24) ?hr ?_; (case hd => rfl); (case hg => rfl); (case hr => first | (go_simp; done) | (go_simp; rfl)); intro gb681 hg w5 hbox hb; have n0_ := Aside0.mk (below_step (by repeat (first | (with_reducible first | exact HB.out | apply below_alloc | apply pw_below_drewN | apply below_drew1) | exact HB.out)) hb); have n1_ := Aside0.mk (hbox); have n2_ := Aside0.mk ((by rw [hg]; exact (below_size (by repeat (first | (with_reducible first | exact HB.out | apply below_alloc | apply pw_below_drewN | apply below_drew1) | exact HB.out))) : w.heap.size ≤ gb681)); have n3_ := Aside0.mk ((by rw [hg]; exact (below_size (by repeat (first | (with_reducible first | exact HB.out | apply below_alloc | apply pw_below_drewN | apply below_drew1) | exact HB.out))) : w.heap.size ≤ gb681)); clear HB; have HB := n0_; have BK681 := n1_; have GW681 := n2_; have GE681 := n3_; clear n0_ n1_ n2_ n3_; clear hb hbox hg; have hcz6_0 : w5.cell? ⟨gb681, 0, none⟩ = some (.int .i64 a0_0) := (blk_cell BK681.out 0).trans rfl; have hcz6_1 : w5.cell? ⟨gb681, 1, none⟩ = some (.slice A0_1 l0_1.length c0_1) := (blk_cell BK681.out 1).trans rfl; have hfz6_0 := blk_frozen BK681.out 0; have hfz6_1 := blk_frozen BK681.out 1) | ((with_reducible refine gate_callee (f := 21) rfl ?_); refine goesL_ (some 18) rfl rfl Try.func21 (by kernel_rfl) rfl #[.agg #[.int .i64 a0_0, .slice A0_1 l0_1.length c0_1], .int .i64 1048576] rfl (by (try simp only [List.map_toArray, List.map_cons, List.map_nil]); first | done | rfl | (simp only [List.length_drop, List.length_take]; rfl)) ?_; (with_reducible refine (laws_szPole.calls a0_0 _ _ l0_1 1048576 t682 _ ?side1 ?side2 A3.out).mono ?_); (case side1 => repeat (first | exact (Kd.C_below HR0_1.out HB.out) | (with_reducible refine Kd.C_alloc ?_ _) | (with_reducible refine Kd.C_drewN ?_ _) | (with_reducible refine Kd.C_drew ?_))); (case side2 => exact HC0_1.out); rintro e w7 ⟨rfl, hb⟩; refine ⟨_, rfl, ?_⟩; have n0_ := Aside0.mk (blk_below (g := gb681) (o := .cells #[.int .i64 a0_0, .slice A0_1 l0_1.length c0_1] 24 (0, 0)) (by (with_reducible repeat (first | refine blk_drewN ?_ _ | refine blk_drew ?_ | refine blk_alloc ?_ _)); exact BK681.out) hb); have n1_ := Aside0.mk (below_step (by repeat (first | (with_reducible first | exact HB.out | apply below_alloc | apply pw_below_drewN | apply below_drew1 | refine below_set ?_ GE681.out) | exact HB.out)) hb); clear BK681; clear HB; have BK681 := n0_; have HB := n1_; clear n0_ n1_; (try clear hb); (try clear hb2); (try clear hk); (try clear hi)))
    go_ret
    exact ⟨by first | rfl | (simp [errW_none, errW_some] <;> rfl) | (simp [*, errW_none, errW_some] <;> rfl), by repeat (first | (with_reducible first | exact HB.out | apply below_alloc | apply pw_below_drewN | apply below_drew1 | refine below_set ?_ GE681.out) | exact HB.out)⟩
  · rw [if_neg c4] at H
    have c4b0 : decide (t682 < 0) = false := decide_eq_false c4
    clear c4
    replace H := Option.bind_eq_some_iff.mp H
    obtain ⟨⟨t683, t684⟩, A80, H⟩ := H
    replace H : ((spec_PoleWay.f k t683 t684 a1).bind fun bt687 => ((laws_toPole.f k a0_0 l0_1).bind fun bt691 => ((impl_PoleWay.f k bt691.1 bt691.2 a1).bind fun bt696 => ((laws_eqIntS.f k bt696.1 bt687.1).bind fun t700 => (if t700 = true then (if (bt696.2 != bt687.2) = true then (none) else ((laws_toPole.f k a0_0 l0_1).bind fun bt701 => ((laws_eqPole.f k bt691.1 bt691.2 bt701.1 bt701.2).bind fun t705 => (if t705 = true then ((laws_markPole.f k bt691.1 bt691.2 1).bind fun bt706 => (if bt706.1 < 0 then (laws_FnExactPoleWay.j0 k a1 bt687.1 bt687.2 bt696.1 true a0_0 l0_1) else ((laws_eqIntS.f k bt696.1 bt687.1).bind fun t708 => (if t708 = true then (laws_FnExactPoleWay.j0 k a1 bt687.1 bt687.2 bt696.1 (bt696.2 != bt687.2) a0_0 l0_1) else (none))))) else (none))))) else (none)))))) = some r := H
    have A8 := Aside0.mk A80
    clear A80
    replace H := Option.bind_eq_some_iff.mp H
    obtain ⟨⟨t687, t690⟩, A90, H⟩ := H
    replace H : ((laws_toPole.f k a0_0 l0_1).bind fun bt691 => ((impl_PoleWay.f k bt691.1 bt691.2 a1).bind fun bt696 => ((laws_eqIntS.f k bt696.1 t687).bind fun t700 => (if t700 = true then (if (bt696.2 != t690) = true then (none) else ((laws_toPole.f k a0_0 l0_1).bind fun bt701 => ((laws_eqPole.f k bt691.1 bt691.2 bt701.1 bt701.2).bind fun t705 => (if t705 = true then ((laws_markPole.f k bt691.1 bt691.2 1).bind fun bt706 => (if bt706.1 < 0 then (laws_FnExactPoleWay.j0 k a1 t687 t690 bt696.1 true a0_0 l0_1) else ((laws_eqIntS.f k bt696.1 t687).bind fun t708 => (if t708 = true then (laws_FnExactPoleWay.j0 k a1 t687 t690 bt696.1 (bt696.2 != t690) a0_0 l0_1) else (none))))) else (none))))) else (none))))) = some r := H
    have A9 := Aside0.mk A90
    clear A90
    replace H := Option.bind_eq_some_iff.mp H
    obtain ⟨⟨t691, t692⟩, A100, H⟩ := H
    replace H : ((impl_PoleWay.f k t691 t692 a1).bind fun bt696 => ((laws_eqIntS.f k bt696.1 t687).bind fun t700 => (if t700 = true then (if (bt696.2 != t690) = true then (none) else ((laws_toPole.f k a0_0 l0_1).bind fun bt701 => ((laws_eqPole.f k t691 t692 bt701.1 bt701.2).bind fun t705 => (if t705 = true then ((laws_markPole.f k t691 t692 1).bind fun bt706 => (if bt706.1 < 0 then (laws_FnExactPoleWay.j0 k a1 t687 t690 bt696.1 true a0_0 l0_1) else ((laws_eqIntS.f k bt696.1 t687).bind fun t708 => (if t708 = true then (laws_FnExactPoleWay.j0 k a1 t687 t690 bt696.1 (bt696.2 != t690) a0_0 l0_1) else (none))))) else (none))))) else (none)))) = some r := H
    have A10 := Aside0.mk A100
    clear A100
    replace H := Option.bind_eq_some_iff.mp H
    obtain ⟨⟨t696, t699⟩, A110, H⟩ := H
    replace H : ((laws_eqIntS.f k t696 t687).bind fun t700 => (if t700 = true then (if (t699 != t690) = true then (none) else ((laws_toPole.f k a0_0 l0_1).bind fun bt701 => ((laws_eqPole.f k t691 t692 bt701.1 bt701.2).bind fun t705 => (if t705 = true then ((laws_markPole.f k t691 t692 1).bind fun bt706 => (if bt706.1 < 0 then (laws_FnExactPoleWay.j0 k a1 t687 t690 t696 true a0_0 l0_1) else ((laws_eqIntS.f k t696 t687).bind fun t708 => (if t708 = true then (laws_FnExactPoleWay.j0 k a1 t687 t690 t696 (t699 != t690) a0_0 l0_1) else (none))))) else (none))))) else (none))) = some r := H
    have A11 := Aside0.mk A110
    clear A110
    replace H := Option.bind_eq_some_iff.mp H
    obtain ⟨t700, A120, H⟩ := H
    replace H : (if t700 = true then (if (t699 != t690) = true then (none) else ((laws_toPole.f k a0_0 l0_1).bind fun bt701 => ((laws_eqPole.f k t691 t692 bt701.1 bt701.2).bind fun t705 => (if t705 = true then ((laws_markPole.f k t691 t692 1).bind fun bt706 => (if bt706.1 < 0 then (laws_FnExactPoleWay.j0 k a1 t687 t690 t696 true a0_0 l0_1) else ((laws_eqIntS.f k t696 t687).bind fun t708 => (if t708 = true then (laws_FnExactPoleWay.j0 k a1 t687 t690 t696 (t699 != t690) a0_0 l0_1) else (none))))) else (none))))) else (none)) = some r := H
    have A12 := Aside0.mk A120
    clear A120
    by_cases c13 : t700 = true
    · subst c13
      have H1 : (if (t699 != t690) = true then (none) else ((laws_toPole.f k a0_0 l0_1).bind fun bt701 => ((laws_eqPole.f k t691 t692 bt701.1 bt701.2).bind fun t705 => (if t705 = true then ((laws_markPole.f k t691 t692 1).bind fun bt706 => (if bt706.1 < 0 then (laws_FnExactPoleWay.j0 k a1 t687 t690 t696 true a0_0 l0_1) else ((laws_eqIntS.f k t696 t687).bind fun t708 => (if t708 = true then (laws_FnExactPoleWay.j0 k a1 t687 t690 t696 (t699 != t690) a0_0 l0_1) else (none))))) else (none))))) = some r := by rw [if_pos rfl] at H; exact H
      clear H
      have H := H1
      clear H1
      by_cases c14 : (t699 != t690) = true
      · rw [if_pos c14] at H
        exact absurd H (by simp)
      · rw [if_neg c14] at H
        have c14b0 : (t699 != t690) = false := by simpa using c14
        (try (have c14b1 : decide (t699 = t690) = true := by simpa using c14))
        (try (have c14b2 : (t699 == t690) = true := by simpa using c14))
        clear c14
        replace H := Option.bind_eq_some_iff.mp H
        obtain ⟨⟨t701, t702⟩, A150, H⟩ := H
        replace H : ((laws_eqPole.f k t691 t692 t701 t702).bind fun t705 => (if t705 = true then ((laws_markPole.f k t691 t692 1).bind fun bt706 => (if bt706.1 < 0 then (laws_FnExactPoleWay.j0 k a1 t687 t690 t696 true a0_0 l0_1) else ((laws_eqIntS.f k t696 t687).bind fun t708 => (if t708 = true then (laws_FnExactPoleWay.j0 k a1 t687 t690 t696 (t699 != t690) a0_0 l0_1) else (none))))) else (none))) = some r := H
        have A15 := Aside0.mk A150
        clear A150
        replace H := Option.bind_eq_some_iff.mp H
        obtain ⟨t705, A160, H⟩ := H
        replace H : (if t705 = true then ((laws_markPole.f k t691 t692 1).bind fun bt706 => (if bt706.1 < 0 then (laws_FnExactPoleWay.j0 k a1 t687 t690 t696 true a0_0 l0_1) else ((laws_eqIntS.f k t696 t687).bind fun t708 => (if t708 = true then (laws_FnExactPoleWay.j0 k a1 t687 t690 t696 (t699 != t690) a0_0 l0_1) else (none))))) else (none)) = some r := H
        have A16 := Aside0.mk A160
        clear A160
        by_cases c17 : t705 = true
        · subst c17
          have H1 : ((laws_markPole.f k t691 t692 1).bind fun bt706 => (if bt706.1 < 0 then (laws_FnExactPoleWay.j0 k a1 t687 t690 t696 true a0_0 l0_1) else ((laws_eqIntS.f k t696 t687).bind fun t708 => (if t708 = true then (laws_FnExactPoleWay.j0 k a1 t687 t690 t696 (t699 != t690) a0_0 l0_1) else (none))))) = some r := by rw [if_pos rfl] at H; exact H
          clear H
          have H := H1
          clear H1
          replace H := Option.bind_eq_some_iff.mp H
          obtain ⟨⟨t706, t707⟩, A180, H⟩ := H
          replace H : (if t706 < 0 then (laws_FnExactPoleWay.j0 k a1 t687 t690 t696 true a0_0 l0_1) else ((laws_eqIntS.f k t696 t687).bind fun t708 => (if t708 = true then (laws_FnExactPoleWay.j0 k a1 t687 t690 t696 (t699 != t690) a0_0 l0_1) else (none)))) = some r := H
          have A18 := Aside0.mk A180
          clear A180
          have HC19 := Aside0.mk H
          clear H
          go_enter Try.func12, Try.ntmps12
          try go_wp2_with (first | ((with_reducible refine gate_dst (N := 2) rfl ?_); refine box_event ?hg (N := 2) ?hd (cs := #[.int .i64 a0_0, .slice A0_1 l0_1.length c0_1]) (t := 24) ?hr ?_; (case hd => rfl); (case hg => rfl); (case hr => first | (go_simp; done) | (go_simp; rfl)); intro gb681 hg w20 hbox hb; have n0_ := Aside0.mk (below_step (by repeat (first | (with_reducible first | exact HB.out | apply below_alloc | apply pw_below_drewN | apply below_drew1) | exact HB.out)) hb); have n1_ := Aside0.mk (hbox); have n2_ := Aside0.mk ((by rw [hg]; exact (below_size (by repeat (first | (with_reducible first | exact HB.out | apply below_alloc | apply pw_below_drewN | apply below_drew1) | exact HB.out))) : w.heap.size ≤ gb681)); have n3_ := Aside0.mk ((by rw [hg]; exact (below_size (by repeat (first | (with_reducible first | exact HB.out | apply below_alloc | apply pw_below_drewN | apply below_drew1) | exact HB.out))) : w.heap.size ≤ gb681)); clear HB; have HB := n0_; have BK681 := n1_; have GW681 := n2_; have GE681 := n3_; clear n0_ n1_ n2_ n3_; clear hb hbox hg; have hcz21_0 : w20.cell? ⟨gb681, 0, none⟩ = some (.int .i64 a0_0) := (blk_cell BK681.out 0).trans rfl; have hcz21_1 : w20.cell? ⟨gb681, 1, none⟩ = some (.slice A0_1 l0_1.length c0_1) := (blk_cell BK681.out 1).trans rfl; have hfz21_0 := blk_frozen BK681.out 0; have hfz21_1 := blk_frozen BK681.out 1) | ((with_reducible refine gate_callee (f := 21) rfl ?_); refine goesL_ (some 18) rfl rfl Try.func21 (by kernel_rfl) rfl #[.agg #[.int .i64 a0_0, .slice A0_1 l0_1.length c0_1], .int .i64 1048576] rfl (by (try simp only [List.map_toArray, List.map_cons, List.map_nil]); first | done | rfl | (simp only [List.length_drop, List.length_take]; rfl)) ?_; (with_reducible refine (laws_szPole.calls a0_0 _ _ l0_1 1048576 t682 _ ?side1 ?side2 A3.out).mono ?_); (case side1 => repeat (first | exact (Kd.C_below HR0_1.out HB.out) | (with_reducible refine Kd.C_alloc ?_ _) | (with_reducible refine Kd.C_drewN ?_ _) | (with_reducible refine Kd.C_drew ?_))); (case side2 => exact HC0_1.out); rintro e w22 ⟨rfl, hb⟩; refine ⟨_, rfl, ?_⟩; have n0_ := Aside0.mk (blk_below (g := gb681) (o := .cells #[.int .i64 a0_0, .slice A0_1 l0_1.length c0_1] 24 (0, 0)) (by (with_reducible repeat (first | refine blk_drewN ?_ _ | refine blk_drew ?_ | refine blk_alloc ?_ _)); exact BK681.out) hb); have n1_ := Aside0.mk (below_step (by repeat (first | (with_reducible first | exact HB.out | apply below_alloc | apply pw_below_drewN | apply below_drew1 | refine below_set ?_ GE681.out) | exact HB.out)) hb); clear BK681; clear HB; have BK681 := n0_; have HB := n1_; clear n0_ n1_; (try clear hb); (try clear hb2); (try clear hk); (try clear hi); have hcz23_0 : w22.cell? ⟨gb681, 0, none⟩ = some (.int .i64 a0_0) := (blk_cell BK681.out 0).trans rfl; have hcz23_1 : w22.cell? ⟨gb681, 1, none⟩ = some (.slice A0_1 l0_1.length c0_1) := (blk_cell BK681.out 1).trans rfl; have hfz23_0 := blk_frozen BK681.out 0; have hfz23_1 := blk_frozen BK681.out 1) | ((with_reducible refine gate_callee (f := 23) rfl ?_); refine goesL_ (some 23) rfl rfl Try.func23 (by kernel_rfl) rfl #[.agg #[.int .i64 a0_0, .slice A0_1 l0_1.length c0_1]] rfl (by (try simp only [List.map_toArray, List.map_cons, List.map_nil]); first | done | rfl | (simp only [List.length_drop, List.length_take]; rfl)) ?_; (with_reducible refine (laws_toPole.calls k a0_0 _ _ l0_1 t683 t684 _ ?side1 ?side2 A8.out).mono ?_); (case side1 => repeat (first | exact (Kd.C_below HR0_1.out HB.out) | (with_reducible refine Kd.C_alloc ?_ _) | (with_reducible refine Kd.C_drewN ?_ _) | (with_reducible refine Kd.C_drew ?_))); (case side2 => exact HC0_1.out); rintro e w24 ⟨v685, rfl, ho0, hb⟩; refine ⟨_, rfl, ?_⟩; have n0_ := Aside0.mk (Kd.R_lower ho0 (below_size (by repeat (first | (with_reducible first | exact HB.out | apply below_alloc | apply pw_below_drewN | apply below_drew1 | refine below_set ?_ GE681.out) | exact HB.out)))); have n1_ := Aside0.mk (blk_below (g := gb681) (o := .cells #[.int .i64 a0_0, .slice A0_1 l0_1.length c0_1] 24 (0, 0)) (by (with_reducible repeat (first | refine blk_drewN ?_ _ | refine blk_drew ?_ | refine blk_alloc ?_ _)); exact BK681.out) hb); have n2_ := Aside0.mk (below_step (by repeat (first | (with_reducible first | exact HB.out | apply below_alloc | apply pw_below_drewN | apply below_drew1 | refine below_set ?_ GE681.out) | exact HB.out)) hb); clear BK681; clear HB; have HO686 := n0_; have BK681 := n1_; have HB := n2_; clear n0_ n1_ n2_; (try clear hb); (try clear hb2); (try clear hk); (try clear hi); (try clear ho0); obtain ⟨Ao25, co25, eo25⟩ := Kd.R_slice HO686.out; subst eo25) | ((with_reducible refine gate_callee (f := 52) rfl ?_); refine goesL_ (some 25) rfl rfl Try.func52 (by kernel_rfl) rfl #[.agg #[.int .i64 t683, .slice Ao25 t684.length co25], .int .i64 a1] rfl (by (try simp only [List.map_toArray, List.map_cons, List.map_nil]); first | done | rfl | (simp only [List.length_drop, List.length_take]; rfl)) ?_; (with_reducible refine (spec_PoleWay.calls k t683 _ _ t684 a1 t687 t690 _ ?side1 ?side2 A9.out).mono ?_); (case side1 => repeat (first | exact (Kd.R_reads' HO686.out).2.2 | (with_reducible refine Kd.C_alloc ?_ _) | (with_reducible refine Kd.C_drewN ?_ _) | (with_reducible refine Kd.C_drew ?_))); (case side2 => exact (Kd.R_reads' HO686.out).2.1); rintro e w26 ⟨v688, rfl, ho0, hb⟩; refine ⟨_, rfl, ?_⟩; have n0_ := Aside0.mk (Kd.R_elder' (by (with_reducible repeat (first | apply Kd.R_alloc | apply Kd.R_drewN | apply Kd.R_drew)); exact HO686.out) (Kd.R_base ho0) hb); have n1_ := Aside0.mk (Kd.R_lower (Kd.R_new' ho0 (Kd.R_lt (by (with_reducible repeat (first | apply Kd.R_alloc | apply Kd.R_drewN | apply Kd.R_drew)); exact HO686.out))) (below_size (by repeat (first | (with_reducible first | exact HB.out | apply below_alloc | apply pw_below_drewN | apply below_drew1 | refine below_set ?_ GE681.out) | exact HB.out)))); have n2_ := Aside0.mk (blk_below (g := gb681) (o := .cells #[.int .i64 a0_0, .slice A0_1 l0_1.length c0_1] 24 (0, 0)) (by (with_reducible repeat (first | refine blk_drewN ?_ _ | refine blk_drew ?_ | refine blk_alloc ?_ _)); exact BK681.out) hb); have n3_ := Aside0.mk (below_step (by repeat (first | (with_reducible first | exact HB.out | apply below_alloc | apply pw_below_drewN | apply below_drew1 | refine below_set ?_ GE681.out) | exact HB.out)) hb); clear HO686; clear BK681; clear HB; have HO686 := n0_; have HO689 := n1_; have BK681 := n2_; have HB := n3_; clear n0_ n1_ n2_ n3_; (try clear hb); (try clear hb2); (try clear hk); (try clear hi); (try clear ho0); have hcz27_0 : w26.cell? ⟨gb681, 0, none⟩ = some (.int .i64 a0_0) := (blk_cell BK681.out 0).trans rfl; have hcz27_1 : w26.cell? ⟨gb681, 1, none⟩ = some (.slice A0_1 l0_1.length c0_1) := (blk_cell BK681.out 1).trans rfl; have hfz27_0 := blk_frozen BK681.out 0; have hfz27_1 := blk_frozen BK681.out 1) | ((with_reducible refine gate_callee (f := 23) rfl ?_); refine goesL_ (some 29) rfl rfl Try.func23 (by kernel_rfl) rfl #[.agg #[.int .i64 a0_0, .slice A0_1 l0_1.length c0_1]] rfl (by (try simp only [List.map_toArray, List.map_cons, List.map_nil]); first | done | rfl | (simp only [List.length_drop, List.length_take]; rfl)) ?_; (with_reducible refine (laws_toPole.calls k a0_0 _ _ l0_1 t691 t692 _ ?side1 ?side2 A10.out).mono ?_); (case side1 => repeat (first | exact (Kd.C_below HR0_1.out HB.out) | (with_reducible refine Kd.C_alloc ?_ _) | (with_reducible refine Kd.C_drewN ?_ _) | (with_reducible refine Kd.C_drew ?_))); (case side2 => exact HC0_1.out); rintro e w28 ⟨v693, rfl, ho0, hb⟩; refine ⟨_, rfl, ?_⟩; have n0_ := Aside0.mk (Kd.R_elder' (by (with_reducible repeat (first | apply Kd.R_alloc | apply Kd.R_drewN | apply Kd.R_drew)); exact HO686.out) (Kd.R_base ho0) hb); have n1_ := Aside0.mk (Kd.R_elder' (by (with_reducible repeat (first | apply Kd.R_alloc | apply Kd.R_drewN | apply Kd.R_drew)); exact HO689.out) (Kd.R_base ho0) hb); have n2_ := Aside0.mk (Kd.R_lower (Kd.R_new' (Kd.R_new' ho0 (Kd.R_lt (by (with_reducible repeat (first | apply Kd.R_alloc | apply Kd.R_drewN | apply Kd.R_drew)); exact HO686.out))) (Kd.R_lt (by (with_reducible repeat (first | apply Kd.R_alloc | apply Kd.R_drewN | apply Kd.R_drew)); exact HO689.out))) (below_size (by repeat (first | (with_reducible first | exact HB.out | apply below_alloc | apply pw_below_drewN | apply below_drew1 | refine below_set ?_ GE681.out) | exact HB.out)))); have n3_ := Aside0.mk (blk_below (g := gb681) (o := .cells #[.int .i64 a0_0, .slice A0_1 l0_1.length c0_1] 24 (0, 0)) (by (with_reducible repeat (first | refine blk_drewN ?_ _ | refine blk_drew ?_ | refine blk_alloc ?_ _)); exact BK681.out) hb); have n4_ := Aside0.mk (below_step (by repeat (first | (with_reducible first | exact HB.out | apply below_alloc | apply pw_below_drewN | apply below_drew1 | refine below_set ?_ GE681.out) | exact HB.out)) hb); clear HO686; clear HO689; clear BK681; clear HB; have HO686 := n0_; have HO689 := n1_; have HO694 := n2_; have BK681 := n3_; have HB := n4_; clear n0_ n1_ n2_ n3_ n4_; (try clear hb); (try clear hb2); (try clear hk); (try clear hi); (try clear ho0)) | ((with_reducible refine gate_dst (N := 8) rfl ?_); refine box_event ?hg (N := 8) ?hd (cs := #[.int .i64 0, .slice none 0 0]) (t := 27) ?hr ?_; (case hd => rfl); (case hg => rfl); (case hr => first | (go_simp; done) | (go_simp; rfl)); intro gb695 hg w29 hbox hb; have n0_ := Aside0.mk (Kd.R_below (by (with_reducible repeat (first | apply Kd.R_alloc | apply Kd.R_drewN | apply Kd.R_drew)); exact HO686.out) hb); have n1_ := Aside0.mk (Kd.R_below (by (with_reducible repeat (first | apply Kd.R_alloc | apply Kd.R_drewN | apply Kd.R_drew)); exact HO689.out) hb); have n2_ := Aside0.mk (Kd.R_below (by (with_reducible repeat (first | apply Kd.R_alloc | apply Kd.R_drewN | apply Kd.R_drew)); exact HO694.out) hb); have n3_ := Aside0.mk (blk_below (g := gb681) (o := .cells #[.int .i64 a0_0, .slice A0_1 l0_1.length c0_1] 24 (0, 0)) (by (with_reducible repeat (first | refine blk_drewN ?_ _ | refine blk_drew ?_ | refine blk_alloc ?_ _)); exact BK681.out) hb); have n4_ := Aside0.mk (below_step (by repeat (first | (with_reducible first | exact HB.out | apply below_alloc | apply pw_below_drewN | apply below_drew1 | refine below_set ?_ GE681.out) | exact HB.out)) hb); have n5_ := Aside0.mk (hbox); have n6_ := Aside0.mk ((by rw [hg]; exact (below_size (by repeat (first | (with_reducible first | exact HB.out | apply below_alloc | apply pw_below_drewN | apply below_drew1 | refine below_set ?_ GE681.out) | exact HB.out))) : w.heap.size ≤ gb695)); have n7_ := Aside0.mk ((by rw [hg]; exact (below_size (by repeat (first | (with_reducible first | exact HB.out | apply below_alloc | apply pw_below_drewN | apply below_drew1 | refine below_set ?_ GE681.out) | exact HB.out))) : w.heap.size ≤ gb695)); have n8_ := Aside0.mk ((by rw [hg]; exact Nat.ne_of_lt (blk_lt (g := gb681) (o := .cells #[.int .i64 a0_0, .slice A0_1 l0_1.length c0_1] 24 (0, 0)) (by (with_reducible repeat (first | refine blk_drewN ?_ _ | refine blk_drew ?_ | refine blk_alloc ?_ _)); exact BK681.out)) : gb681 ≠ gb695)); have n9_ := Aside0.mk ((by rw [hg]; exact Nat.ne_of_gt (blk_lt (g := gb681) (o := .cells #[.int .i64 a0_0, .slice A0_1 l0_1.length c0_1] 24 (0, 0)) (by (with_reducible repeat (first | refine blk_drewN ?_ _ | refine blk_drew ?_ | refine blk_alloc ?_ _)); exact BK681.out)) : gb695 ≠ gb681)); clear HO686; clear HO689; clear HO694; clear BK681; clear HB; have HO686 := n0_; have HO689 := n1_; have HO694 := n2_; have BK681 := n3_; have HB := n4_; have BK695 := n5_; have GW695 := n6_; have GE695 := n7_; have NB681_695 := n8_; have NB695_681 := n9_; clear n0_ n1_ n2_ n3_ n4_ n5_ n6_ n7_ n8_ n9_; clear hb hbox hg; have hnb30 := NB695_681.out; have hnc30 := NB681_695.out; have hcz31_0 : w29.cell? ⟨gb695, 0, none⟩ = some (.int .i64 0) := (blk_cell BK695.out 0).trans rfl; have hcz31_1 : w29.cell? ⟨gb695, 1, none⟩ = some (.slice none 0 0) := (blk_cell BK695.out 1).trans rfl; have hfz31_0 := blk_frozen BK695.out 0; have hfz31_1 := blk_frozen BK695.out 1; obtain ⟨Ao32, co32, eo32⟩ := Kd.R_slice HO694.out; subst eo32) | ((with_reducible refine gate_callee (f := 53) rfl ?_); refine goesL_ (some 33) rfl rfl Try.func53 (by kernel_rfl) rfl #[.agg #[.int .i64 t691, .slice Ao32 t692.length co32], .int .i64 a1] rfl (by (try simp only [List.map_toArray, List.map_cons, List.map_nil]); first | done | rfl | (simp only [List.length_drop, List.length_take]; rfl)) ?_; (with_reducible refine (impl_PoleWay.calls k t691 _ _ t692 a1 t696 t699 _ ?side1 ?side2 A11.out).mono ?_); (case side1 => refine (Kd.R_reads' (e := 3) (base := w.heap.size) (ok := fun k_ => ((True ∧ some k_ ≠ (.slice Ao25 t684.length co25 : Value).ownBlock) ∧ some k_ ≠ (v688 : Value).ownBlock)) (n := t692.length) (c := co32) ?_).2.2; exact (by (with_reducible repeat (first | apply Kd.R_alloc | apply Kd.R_drewN | apply Kd.R_drew)); exact (Kd.R_mono (Kd.R_far (p := ⟨gb695, 1, none⟩) (Kd.R_far (p := ⟨gb695, 0, none⟩) (Kd.R_types HO694.out BK695.out (by decide)) (fun _ hk => by first | exact hk.2 | simp [hk]) (.int .i64 t691)) (fun _ hk => by first | exact hk.2 | simp [hk]) (.slice Ao32 t692.length co32)) (fun _ h_ => h_.1)))); (case side2 => exact (Kd.R_reads' HO694.out).2.1); rintro e w33 ⟨v697, rfl, ho0, hb⟩; refine ⟨_, rfl, ?_⟩; have n0_ := Aside0.mk (Kd.R_elder' (by (with_reducible repeat (first | apply Kd.R_alloc | apply Kd.R_drewN | apply Kd.R_drew)); exact (Kd.R_mono (Kd.R_far (p := ⟨gb695, 1, none⟩) (Kd.R_far (p := ⟨gb695, 0, none⟩) (Kd.R_types HO686.out BK695.out (by decide)) (fun _ hk => by first | exact hk.2 | simp [hk]) (.int .i64 t691)) (fun _ hk => by first | exact hk.2 | simp [hk]) (.slice Ao32 t692.length co32)) (fun _ h_ => h_.1))) (Kd.R_base ho0) hb); have n1_ := Aside0.mk (Kd.R_elder' (by (with_reducible repeat (first | apply Kd.R_alloc | apply Kd.R_drewN | apply Kd.R_drew)); exact (Kd.R_mono (Kd.R_far (p := ⟨gb695, 1, none⟩) (Kd.R_far (p := ⟨gb695, 0, none⟩) (Kd.R_types HO689.out BK695.out (by decide)) (fun _ hk => by first | exact hk.2 | simp [hk]) (.int .i64 t691)) (fun _ hk => by first | exact hk.2 | simp [hk]) (.slice Ao32 t692.length co32)) (fun _ h_ => h_.1))) (Kd.R_base ho0) hb); have n2_ := Aside0.mk (Kd.R_elder' (by (with_reducible repeat (first | apply Kd.R_alloc | apply Kd.R_drewN | apply Kd.R_drew)); exact (Kd.R_mono (Kd.R_far (p := ⟨gb695, 1, none⟩) (Kd.R_far (p := ⟨gb695, 0, none⟩) (Kd.R_types HO694.out BK695.out (by decide)) (fun _ hk => by first | exact hk.2 | simp [hk]) (.int .i64 t691)) (fun _ hk => by first | exact hk.2 | simp [hk]) (.slice Ao32 t692.length co32)) (fun _ h_ => h_.1))) (Kd.R_base ho0) hb); have n3_ := Aside0.mk (Kd.R_lower (Kd.R_new' (Kd.R_new' (Kd.R_new' ho0 (Kd.R_lt (by (with_reducible repeat (first | apply Kd.R_alloc | apply Kd.R_drewN | apply Kd.R_drew)); exact (Kd.R_mono (Kd.R_far (p := ⟨gb695, 1, none⟩) (Kd.R_far (p := ⟨gb695, 0, none⟩) (Kd.R_types HO686.out BK695.out (by decide)) (fun _ hk => by first | exact hk.2 | simp [hk]) (.int .i64 t691)) (fun _ hk => by first | exact hk.2 | simp [hk]) (.slice Ao32 t692.length co32)) (fun _ h_ => h_.1))))) (Kd.R_lt (by (with_reducible repeat (first | apply Kd.R_alloc | apply Kd.R_drewN | apply Kd.R_drew)); exact (Kd.R_mono (Kd.R_far (p := ⟨gb695, 1, none⟩) (Kd.R_far (p := ⟨gb695, 0, none⟩) (Kd.R_types HO689.out BK695.out (by decide)) (fun _ hk => by first | exact hk.2 | simp [hk]) (.int .i64 t691)) (fun _ hk => by first | exact hk.2 | simp [hk]) (.slice Ao32 t692.length co32)) (fun _ h_ => h_.1))))) (Kd.R_lt (by (with_reducible repeat (first | apply Kd.R_alloc | apply Kd.R_drewN | apply Kd.R_drew)); exact (Kd.R_mono (Kd.R_far (p := ⟨gb695, 1, none⟩) (Kd.R_far (p := ⟨gb695, 0, none⟩) (Kd.R_types HO694.out BK695.out (by decide)) (fun _ hk => by first | exact hk.2 | simp [hk]) (.int .i64 t691)) (fun _ hk => by first | exact hk.2 | simp [hk]) (.slice Ao32 t692.length co32)) (fun _ h_ => h_.1))))) (below_size (by repeat (first | (with_reducible first | exact HB.out | apply below_alloc | apply pw_below_drewN | apply below_drew1 | refine below_set ?_ GE681.out | refine below_set ?_ GE695.out) | exact HB.out)))); have n4_ := Aside0.mk (blk_below (g := gb681) (o := .cells #[.int .i64 a0_0, .slice A0_1 l0_1.length c0_1] 24 (0, 0)) (by (with_reducible repeat (first | refine blk_drewN ?_ _ | refine blk_drew ?_ | refine blk_alloc ?_ _)); refine blk_far ?_ NB681_695.out _; (with_reducible repeat (first | refine blk_drewN ?_ _ | refine blk_drew ?_ | refine blk_alloc ?_ _)); refine blk_far ?_ NB681_695.out _; (with_reducible repeat (first | refine blk_drewN ?_ _ | refine blk_drew ?_ | refine blk_alloc ?_ _)); exact BK681.out) hb); have n5_ := Aside0.mk (blk_below (g := gb695) (o := .cells #[.int .i64 t691, .slice Ao32 t692.length co32] 27 (0, 0)) (by (with_reducible repeat (first | refine blk_drewN ?_ _ | refine blk_drew ?_ | refine blk_alloc ?_ _)); refine blk_put (cs := #[.int .i64 t691, .slice none 0 0]) ?_ 1 _ rfl; (with_reducible repeat (first | refine blk_drewN ?_ _ | refine blk_drew ?_ | refine blk_alloc ?_ _)); refine blk_put (cs := #[.int .i64 0, .slice none 0 0]) ?_ 0 _ rfl; (with_reducible repeat (first | refine blk_drewN ?_ _ | refine blk_drew ?_ | refine blk_alloc ?_ _)); exact BK695.out) hb); have n6_ := Aside0.mk (below_step (by repeat (first | (with_reducible first | exact HB.out | apply below_alloc | apply pw_below_drewN | apply below_drew1 | refine below_set ?_ GE681.out | refine below_set ?_ GE695.out) | exact HB.out)) hb); clear HO686; clear HO689; clear HO694; clear BK681; clear BK695; clear HB; have HO686 := n0_; have HO689 := n1_; have HO694 := n2_; have HO698 := n3_; have BK681 := n4_; have BK695 := n5_; have HB := n6_; clear n0_ n1_ n2_ n3_ n4_ n5_ n6_; (try clear hb); (try clear hb2); (try clear hk); (try clear hi); (try clear ho0); obtain ⟨Ao34, co34, eo34⟩ := Kd.R_slice HO698.out; subst eo34; obtain ⟨Ao35, co35, eo35⟩ := Kd.R_slice HO689.out; subst eo35) | ((with_reducible refine gate_callee (f := 54) rfl ?_); refine goesL_ (some 38) rfl rfl Try.func54 (by kernel_rfl) rfl #[.slice Ao34 t696.length co34, .slice Ao35 t687.length co35] rfl (by (try simp only [List.map_toArray, List.map_cons, List.map_nil]); first | done | rfl | (simp only [List.length_drop, List.length_take]; rfl)) ?_; (with_reducible refine (laws_eqIntS.calls k _ _ t696 _ _ t687 true _ ?side1 ?side2 ?side3 ?side4 A12.out).mono ?_); (case side1 => repeat (first | exact (Kd.R_reads' HO698.out).2.2 | (with_reducible refine Kd.C_alloc ?_ _) | (with_reducible refine Kd.C_drewN ?_ _) | (with_reducible refine Kd.C_drew ?_))); (case side2 => exact (Kd.R_reads' HO698.out).2.1); (case side3 => repeat (first | exact (Kd.R_reads' HO689.out).2.2 | (with_reducible refine Kd.C_alloc ?_ _) | (with_reducible refine Kd.C_drewN ?_ _) | (with_reducible refine Kd.C_drew ?_))); (case side4 => exact (Kd.R_reads' HO689.out).2.1); rintro e w' ⟨rfl, ⟨nd, rfl⟩⟩; refine ⟨_, rfl, ?_⟩))
          (try (rw [drewN_self w33]; generalize hq_ : World.drewN w33 _ = w33; have n0_ : Aside0 (Kd.R (Kd.int .i64) 3 w33 w.heap.size (fun k_ => some k_ ≠ (.slice Ao35 t687.length co35 : Value).ownBlock ∧ some k_ ≠ (.slice Ao32 t692.length co32 : Value).ownBlock ∧ some k_ ≠ (.slice Ao34 t696.length co34 : Value).ownBlock) (.slice Ao25 t684.length co25) t684) := ⟨by rw [← hq_]; exact (by (with_reducible repeat (first | apply Kd.R_alloc | apply Kd.R_drewN | apply Kd.R_drew)); exact Kd.R_mono HO686.out (fun _ hk => ⟨hk.1.1.2, ⟨hk.1.2, hk.2⟩⟩))⟩; have n1_ : Aside0 (Kd.R (Kd.int .i64) 3 w33 w.heap.size (fun k_ => some k_ ≠ (.slice Ao25 t684.length co25 : Value).ownBlock ∧ some k_ ≠ (.slice Ao32 t692.length co32 : Value).ownBlock ∧ some k_ ≠ (.slice Ao34 t696.length co34 : Value).ownBlock) (.slice Ao35 t687.length co35) t687) := ⟨by rw [← hq_]; exact (by (with_reducible repeat (first | apply Kd.R_alloc | apply Kd.R_drewN | apply Kd.R_drew)); exact Kd.R_mono HO689.out (fun _ hk => ⟨hk.1.1.2, ⟨hk.1.2, hk.2⟩⟩))⟩; have n2_ : Aside0 (Kd.R (Kd.int .i64) 3 w33 w.heap.size (fun k_ => some k_ ≠ (.slice Ao25 t684.length co25 : Value).ownBlock ∧ some k_ ≠ (.slice Ao35 t687.length co35 : Value).ownBlock ∧ some k_ ≠ (.slice Ao34 t696.length co34 : Value).ownBlock) (.slice Ao32 t692.length co32) t692) := ⟨by rw [← hq_]; exact (by (with_reducible repeat (first | apply Kd.R_alloc | apply Kd.R_drewN | apply Kd.R_drew)); exact Kd.R_mono HO694.out (fun _ hk => ⟨hk.1.1.2, ⟨hk.1.2, hk.2⟩⟩))⟩; have n3_ : Aside0 (Kd.R (Kd.int .i64) 3 w33 w.heap.size (fun k_ => some k_ ≠ (.slice Ao25 t684.length co25 : Value).ownBlock ∧ some k_ ≠ (.slice Ao35 t687.length co35 : Value).ownBlock ∧ some k_ ≠ (.slice Ao32 t692.length co32 : Value).ownBlock) (.slice Ao34 t696.length co34) t696) := ⟨by rw [← hq_]; exact (by (with_reducible repeat (first | apply Kd.R_alloc | apply Kd.R_drewN | apply Kd.R_drew)); exact Kd.R_mono HO698.out (fun _ hk => ⟨hk.1.1.2, ⟨hk.1.2, hk.2⟩⟩))⟩; have n4_ : Aside0 (w33.heap[gb681]? = some (.cells #[.int .i64 a0_0, .slice A0_1 l0_1.length c0_1] 24 (0, 0))) := ⟨by rw [← hq_]; exact (by (with_reducible repeat (first | refine blk_drewN ?_ _ | refine blk_drew ?_ | refine blk_alloc ?_ _)); exact BK681.out)⟩; have n5_ : Aside0 (w33.heap[gb695]? = some (.cells #[.int .i64 t691, .slice Ao32 t692.length co32] 27 (0, 0))) := ⟨by rw [← hq_]; exact (by (with_reducible repeat (first | refine blk_drewN ?_ _ | refine blk_drew ?_ | refine blk_alloc ?_ _)); exact BK695.out)⟩; have n6_ : Aside0 (Below w.heap.size w w33) := ⟨by rw [← hq_]; exact (by repeat (first | (with_reducible first | exact HB.out | apply below_alloc | apply pw_below_drewN | apply below_drew1 | refine below_set ?_ GE681.out | refine below_set ?_ GE695.out) | exact HB.out))⟩; clear HO686 HO689 HO694 HO698 BK681 BK695 HB hq_; have HO686 := n0_; have HO689 := n1_; have HO694 := n2_; have HO698 := n3_; have BK681 := n4_; have BK695 := n5_; have HB := n6_; clear n0_ n1_ n2_ n3_ n4_ n5_ n6_))
          have n0_ := Aside0.mk (Kd.R_drew HO686.out)
          have n1_ := Aside0.mk (Kd.R_drew HO689.out)
          have n2_ := Aside0.mk (Kd.R_drew HO694.out)
          have n3_ := Aside0.mk (Kd.R_drew HO698.out)
          have n4_ := Aside0.mk (blk_drew BK681.out)
          have n5_ := Aside0.mk (blk_drew BK695.out)
          have n6_ := Aside0.mk (below_drew1 HB.out)
          clear HO686
          clear HO689
          clear HO694
          clear HO698
          clear BK681
          clear BK695
          clear HB
          have HO686 := n0_
          have HO689 := n1_
          have HO694 := n2_
          have HO698 := n3_
          have BK681 := n4_
          have BK695 := n5_
          have HB := n6_
          clear n0_ n1_ n2_ n3_ n4_ n5_ n6_
          refine start_ (n := 5) (S := fun w' => w'.cell? ⟨gb695, 0, none⟩ = some (.int .i64 t691) ∧ w'.cell? ⟨gb695, 1, none⟩ = some (.slice Ao32 t692.length co32) ∧ w'.cell? ⟨gb681, 0, none⟩ = some (.int .i64 a0_0) ∧ w'.cell? ⟨gb681, 1, none⟩ = some (.slice A0_1 l0_1.length c0_1)) (ds := []) #[false, false, false, false, false] (by kernel_rfl) rfl rfl ⟨(blk_cell BK695.out 0).trans rfl, (blk_cell BK695.out 1).trans rfl, (blk_cell BK681.out 0).trans rfl, (blk_cell BK681.out 1).trans rfl⟩ (fun hHeld => ?_)
          generalize w33.drew = w36 at HO686 HO689 HO694 HO698 BK681 BK695 HB hHeld ⊢
          refine take_ (i := 0) (N := some 45) (v := ?_) (a' := ?_) #[true, false, false, false, false] rfl rfl (by kernel_rfl) (fun _ _ _ h => h) (Or.inl ⟨by rfl, ?_⟩) hHeld ?_ ?_
          rotate_left
          · rintro w' ⟨s0, s1, s2, s3⟩
            go_simp
            with_reducible rfl
          rotate_left
          · simp only [Act.put, List.setIfInBounds_toArray, List.set_cons_zero, List.set_cons_succ, i64_w, i32_w]
            rfl
          refine take_ (i := 1) (N := some 46) (v := ?_) (a' := ?_) #[true, true, false, false, false] rfl rfl (by kernel_rfl) (fun _ _ _ h => h) (Or.inl ⟨by rfl, ?_⟩) hHeld ?_ ?_
          rotate_left
          · rintro w' ⟨s0, s1, s2, s3⟩
            go_simp
            with_reducible rfl
          rotate_left
          · simp only [Act.put, List.setIfInBounds_toArray, List.set_cons_zero, List.set_cons_succ, i64_w, i32_w]
            rfl
          refine one_ (i := 2) (N := some 47) #[true, true, true, false, false] rfl rfl (by kernel_rfl) (by decide) (fun K hK => ?_)
          refine goes_ Try.func23 (by kernel_rfl) rfl #[.agg #[.int .i64 a0_0, .slice A0_1 l0_1.length c0_1]] (by rfl) rfl rfl (by (try simp only [List.map_toArray, List.map_cons, List.map_nil]); first | done | rfl | (simp only [List.length_drop, List.length_take]; rfl)) ?_
          with_reducible refine (laws_toPole.calls k a0_0 _ _ l0_1 t701 t702 _ ?side1 ?side2 A15.out).mono ?_
          (case side1 => repeat (first | exact (Kd.C_below HR0_1.out HB.out) | (with_reducible refine Kd.C_alloc ?_ _) | (with_reducible refine Kd.C_drewN ?_ _) | (with_reducible refine Kd.C_drew ?_)))
          (case side2 => exact HC0_1.out)
          rintro e w37 ⟨v703, rfl, ho0, hb⟩
          refine ⟨_, rfl, ?_⟩
          have n0_ := Aside0.mk (Kd.R_elder' (by (with_reducible repeat (first | apply Kd.R_alloc | apply Kd.R_drewN | apply Kd.R_drew)); exact HO686.out) (Kd.R_base ho0) hb)
          have n1_ := Aside0.mk (Kd.R_elder' (by (with_reducible repeat (first | apply Kd.R_alloc | apply Kd.R_drewN | apply Kd.R_drew)); exact HO689.out) (Kd.R_base ho0) hb)
          have n2_ := Aside0.mk (Kd.R_elder' (by (with_reducible repeat (first | apply Kd.R_alloc | apply Kd.R_drewN | apply Kd.R_drew)); exact HO694.out) (Kd.R_base ho0) hb)
          have n3_ := Aside0.mk (Kd.R_elder' (by (with_reducible repeat (first | apply Kd.R_alloc | apply Kd.R_drewN | apply Kd.R_drew)); exact HO698.out) (Kd.R_base ho0) hb)
          have n4_ := Aside0.mk (Kd.R_lower (Kd.R_new' (Kd.R_new' (Kd.R_new' (Kd.R_new' ho0 (Kd.R_lt (by (with_reducible repeat (first | apply Kd.R_alloc | apply Kd.R_drewN | apply Kd.R_drew)); exact HO686.out))) (Kd.R_lt (by (with_reducible repeat (first | apply Kd.R_alloc | apply Kd.R_drewN | apply Kd.R_drew)); exact HO689.out))) (Kd.R_lt (by (with_reducible repeat (first | apply Kd.R_alloc | apply Kd.R_drewN | apply Kd.R_drew)); exact HO694.out))) (Kd.R_lt (by (with_reducible repeat (first | apply Kd.R_alloc | apply Kd.R_drewN | apply Kd.R_drew)); exact HO698.out))) (below_size (by repeat (first | (with_reducible first | exact HB.out | apply below_alloc | apply pw_below_drewN | apply below_drew1 | refine below_set ?_ GE681.out | refine below_set ?_ GE695.out) | exact HB.out))))
          have n5_ := Aside0.mk (blk_below (g := gb681) (o := .cells #[.int .i64 a0_0, .slice A0_1 l0_1.length c0_1] 24 (0, 0)) (by (with_reducible repeat (first | refine blk_drewN ?_ _ | refine blk_drew ?_ | refine blk_alloc ?_ _)); exact BK681.out) hb)
          have n6_ := Aside0.mk (blk_below (g := gb695) (o := .cells #[.int .i64 t691, .slice Ao32 t692.length co32] 27 (0, 0)) (by (with_reducible repeat (first | refine blk_drewN ?_ _ | refine blk_drew ?_ | refine blk_alloc ?_ _)); exact BK695.out) hb)
          have n7_ := Aside0.mk (below_step (by repeat (first | (with_reducible first | exact HB.out | apply below_alloc | apply pw_below_drewN | apply below_drew1 | refine below_set ?_ GE681.out | refine below_set ?_ GE695.out) | exact HB.out)) hb)
          clear HO686
          clear HO689
          clear HO694
          clear HO698
          clear BK681
          clear BK695
          clear HB
          have HO686 := n0_
          have HO689 := n1_
          have HO694 := n2_
          have HO698 := n3_
          have HO704 := n4_
          have BK681 := n5_
          have BK695 := n6_
          have HB := n7_
          clear n0_ n1_ n2_ n3_ n4_ n5_ n6_ n7_
          (try clear hb)
          (try clear hb2)
          (try clear hk)
          (try clear hi)
          (try clear ho0)
          obtain ⟨Ao38, co38, eo38⟩ := Kd.R_slice HO704.out
          (first | subst eo38 | (injection eo38 with f1_ f2_ f3_; have f4_ := f1_.symm; have f5_ := f3_.symm; clear f1_ f2_ f3_; subst f4_; subst f5_))
          refine hK.out _ _ ⟨(blk_cell BK695.out 0).trans rfl, (blk_cell BK695.out 1).trans rfl, (blk_cell BK681.out 0).trans rfl, (blk_cell BK681.out 1).trans rfl⟩ (fun hHeld => ?_)
          clear hK K
          refine norm_ (a' := ?_) ?_ ?_
          rotate_left
          · show Act.put _ (some 47) _ = _
            simp only [Act.put, List.setIfInBounds_toArray, List.set_cons_zero, List.set_cons_succ, i64_w, i32_w]
            rfl
          refine one_ (i := 3) (N := some 48) #[true, true, true, true, false] rfl rfl (by kernel_rfl) (by decide) (fun K hK => ?_)
          refine goes_ Try.func25 (by kernel_rfl) rfl #[.agg #[.int .i64 t691, .slice Ao32 t692.length co32], .agg #[.int .i64 t701, .slice Ao38 t702.length co38]] (by rfl) rfl rfl (by (try simp only [List.map_toArray, List.map_cons, List.map_nil]); first | done | rfl | (simp only [List.length_drop, List.length_take]; rfl)) ?_
          with_reducible refine (laws_eqPole.calls k t691 _ _ t692 t701 _ _ t702 true _ ?side1 ?side2 ?side3 ?side4 A16.out).mono ?_
          (case side1 => repeat (first | exact (Kd.R_reads' HO694.out).2.2 | (with_reducible refine Kd.C_alloc ?_ _) | (with_reducible refine Kd.C_drewN ?_ _) | (with_reducible refine Kd.C_drew ?_)))
          (case side2 => exact (Kd.R_reads' HO694.out).2.1)
          (case side3 => repeat (first | exact (Kd.R_reads' HO704.out).2.2 | (with_reducible refine Kd.C_alloc ?_ _) | (with_reducible refine Kd.C_drewN ?_ _) | (with_reducible refine Kd.C_drew ?_)))
          (case side4 => exact (Kd.R_reads' HO704.out).2.1)
          rintro e w39 ⟨rfl, hb⟩
          refine ⟨_, rfl, ?_⟩
          have n0_ := Aside0.mk (Kd.R_below (by (with_reducible repeat (first | apply Kd.R_alloc | apply Kd.R_drewN | apply Kd.R_drew)); exact HO686.out) hb)
          have n1_ := Aside0.mk (Kd.R_below (by (with_reducible repeat (first | apply Kd.R_alloc | apply Kd.R_drewN | apply Kd.R_drew)); exact HO689.out) hb)
          have n2_ := Aside0.mk (Kd.R_below (by (with_reducible repeat (first | apply Kd.R_alloc | apply Kd.R_drewN | apply Kd.R_drew)); exact HO694.out) hb)
          have n3_ := Aside0.mk (Kd.R_below (by (with_reducible repeat (first | apply Kd.R_alloc | apply Kd.R_drewN | apply Kd.R_drew)); exact HO698.out) hb)
          have n4_ := Aside0.mk (Kd.R_below (by (with_reducible repeat (first | apply Kd.R_alloc | apply Kd.R_drewN | apply Kd.R_drew)); exact HO704.out) hb)
          have n5_ := Aside0.mk (blk_below (g := gb681) (o := .cells #[.int .i64 a0_0, .slice A0_1 l0_1.length c0_1] 24 (0, 0)) (by (with_reducible repeat (first | refine blk_drewN ?_ _ | refine blk_drew ?_ | refine blk_alloc ?_ _)); exact BK681.out) hb)
          have n6_ := Aside0.mk (blk_below (g := gb695) (o := .cells #[.int .i64 t691, .slice Ao32 t692.length co32] 27 (0, 0)) (by (with_reducible repeat (first | refine blk_drewN ?_ _ | refine blk_drew ?_ | refine blk_alloc ?_ _)); exact BK695.out) hb)
          have n7_ := Aside0.mk (below_step (by repeat (first | (with_reducible first | exact HB.out | apply below_alloc | apply pw_below_drewN | apply below_drew1 | refine below_set ?_ GE681.out | refine below_set ?_ GE695.out) | exact HB.out)) hb)
          clear HO686
          clear HO689
          clear HO694
          clear HO698
          clear HO704
          clear BK681
          clear BK695
          clear HB
          have HO686 := n0_
          have HO689 := n1_
          have HO694 := n2_
          have HO698 := n3_
          have HO704 := n4_
          have BK681 := n5_
          have BK695 := n6_
          have HB := n7_
          clear n0_ n1_ n2_ n3_ n4_ n5_ n6_ n7_
          (try clear hb)
          (try clear hb2)
          (try clear hk)
          (try clear hi)
          refine hK.out _ _ ⟨(blk_cell BK695.out 0).trans rfl, (blk_cell BK695.out 1).trans rfl, (blk_cell BK681.out 0).trans rfl, (blk_cell BK681.out 1).trans rfl⟩ (fun hHeld => ?_)
          clear hK K
          refine norm_ (a' := ?_) ?_ ?_
          rotate_left
          · show Act.put _ (some 48) _ = _
            simp only [Act.put, List.setIfInBounds_toArray, List.set_cons_zero, List.set_cons_succ, i64_w, i32_w]
            rfl
          refine pure_ (i := 4) (N := some 49) (v := ?_) (a' := ?_) #[true, true, true, true, true] rfl rfl (by kernel_rfl) (fun _ _ _ h => h) (Or.inl ⟨by rfl, ?_⟩) ?_ ?_
          rotate_left
          · intro w'
            go_simp
            with_reducible rfl
          rotate_left
          · simp only [Act.put, List.setIfInBounds_toArray, List.set_cons_zero, List.set_cons_succ, i64_w, i32_w]
            rfl
          refine done_ (by kernel_rfl) ?_
          have hcz40_0 : w39.cell? ⟨gb695, 0, none⟩ = some (.int .i64 t691) := (blk_cell BK695.out 0).trans rfl
          have hcz40_1 : w39.cell? ⟨gb695, 1, none⟩ = some (.slice Ao32 t692.length co32) := (blk_cell BK695.out 1).trans rfl
          have hfz40_0 := blk_frozen BK695.out 0
          have hfz40_1 := blk_frozen BK695.out 1
          go_upto_region 14 with (first | ((with_reducible refine gate_callee (f := 28) rfl ?_); refine goesL_ (some 52) rfl rfl Try.func28 (by kernel_rfl) rfl #[.agg #[.int .i64 t691, .slice Ao32 t692.length co32], .int .i64 1] rfl (by (try simp only [List.map_toArray, List.map_cons, List.map_nil]); first | done | rfl | (simp only [List.length_drop, List.length_take]; rfl)) ?_; (with_reducible refine (laws_markPole.calls k t691 (fun k_ => some k_ = (.slice Ao32 t692.length co32 : Value).ownBlock) (.slice Ao32 t692.length co32) t692 1 t706 t707 w _ ?side1 ?side2 A18.out).mono ?_); (case side1 => repeat (first | (with_reducible first | exact HB.out | apply below_alloc | apply pw_below_drewN | apply below_drew1 | refine below_set ?_ GE681.out | refine below_set ?_ GE695.out) | exact HB.out)); (case side2 => exact Kd.R_tight rfl HO694.out); rintro e w41 ⟨rfl, hy0, hb, hkp⟩; refine ⟨_, rfl, ?_⟩; have n0_ := Aside0.mk (blk_kept (by (with_reducible repeat (first | refine blk_drewN ?_ _ | refine blk_drew ?_ | refine blk_alloc ?_ _)); exact BK681.out) hkp (fun hs_ => (fun e_ => (Kd.R_ne HO694.out BK681.out (by decide)) e_) hs_)); have n1_ := Aside0.mk (Kd.R_mono (ok' := fun k_ => some k_ ≠ (.slice Ao35 t687.length co35 : Value).ownBlock ∧ some k_ ≠ (.slice Ao32 t692.length co32 : Value).ownBlock ∧ some k_ ≠ (.slice Ao34 t696.length co34 : Value).ownBlock ∧ some k_ ≠ (.slice Ao38 t702.length co38 : Value).ownBlock) (Kd.R_keptB (HO686.out) hkp (fun k_ hk_ hs_ => by first | exact (hk_.1.1.2) hs_ | exact absurd hs_ (by simp [hk_]))) (fun k_ hk_ => by first | exact ⟨hk_.1.1.1.1.2, hk_.1.1.1.2, hk_.1.1.2, hk_.1.2⟩ | simp [hk_])); have n2_ := Aside0.mk (Kd.R_mono (ok' := fun k_ => some k_ ≠ (.slice Ao25 t684.length co25 : Value).ownBlock ∧ some k_ ≠ (.slice Ao32 t692.length co32 : Value).ownBlock ∧ some k_ ≠ (.slice Ao34 t696.length co34 : Value).ownBlock ∧ some k_ ≠ (.slice Ao38 t702.length co38 : Value).ownBlock) (Kd.R_keptB (HO689.out) hkp (fun k_ hk_ hs_ => by first | exact (hk_.1.1.2) hs_ | exact absurd hs_ (by simp [hk_]))) (fun k_ hk_ => by first | exact ⟨hk_.1.1.1.1.2, hk_.1.1.1.2, hk_.1.1.2, hk_.1.2⟩ | simp [hk_])); have n3_ := Aside0.mk (Kd.R_reok rfl hy0 (fun k_ e_ => HO694.out.1 k_ e_)); have n4_ := Aside0.mk (blk_kept (by (with_reducible repeat (first | refine blk_drewN ?_ _ | refine blk_drew ?_ | refine blk_alloc ?_ _)); exact BK695.out) hkp (fun hs_ => (fun e_ => (Kd.R_ne HO694.out BK695.out (by decide)) e_) hs_)); have n5_ := Aside0.mk (Kd.R_mono (ok' := fun k_ => some k_ ≠ (.slice Ao25 t684.length co25 : Value).ownBlock ∧ some k_ ≠ (.slice Ao35 t687.length co35 : Value).ownBlock ∧ some k_ ≠ (.slice Ao32 t692.length co32 : Value).ownBlock ∧ some k_ ≠ (.slice Ao38 t702.length co38 : Value).ownBlock) (Kd.R_keptB (HO698.out) hkp (fun k_ hk_ hs_ => by first | exact (hk_.1.2) hs_ | exact absurd hs_ (by simp [hk_]))) (fun k_ hk_ => by first | exact ⟨hk_.1.1.1.1.2, hk_.1.1.1.2, hk_.1.1.2, hk_.1.2⟩ | simp [hk_])); have n6_ := Aside0.mk (Kd.R_mono (ok' := fun k_ => some k_ ≠ (.slice Ao25 t684.length co25 : Value).ownBlock ∧ some k_ ≠ (.slice Ao35 t687.length co35 : Value).ownBlock ∧ some k_ ≠ (.slice Ao32 t692.length co32 : Value).ownBlock ∧ some k_ ≠ (.slice Ao34 t696.length co34 : Value).ownBlock) (Kd.R_keptB (HO704.out) hkp (fun k_ hk_ hs_ => by first | exact (hk_.1.2) hs_ | exact absurd hs_ (by simp [hk_]))) (fun k_ hk_ => by first | exact ⟨hk_.1.1.1.1.2, hk_.1.1.1.2, hk_.1.1.2, hk_.1.2⟩ | simp [hk_])); have n7_ := Aside0.mk (hb); clear BK681; clear HO686; clear HO689; clear HO694; clear BK695; clear HO698; clear HO704; clear HB; have BK681 := n0_; have HO686 := n1_; have HO689 := n2_; have HO694 := n3_; have BK695 := n4_; have HO698 := n5_; have HO704 := n6_; have HB := n7_; clear n0_ n1_ n2_ n3_ n4_ n5_ n6_ n7_; (try clear hb); (try clear hkp); (try clear hy0)))
          (try simp only [Act.put, List.setIfInBounds_toArray, List.set_cons_zero, List.set_cons_succ])
          go_cut [65] (fun v65 wc => ∃ (kq : Nat) (x65_18 : Bool), v65 = .bool x65_18 ∧ Aside0 (laws_FnExactPoleWay.j0 kq a1 t687 t690 t696 x65_18 a0_0 l0_1 = some r) ∧ Aside0 (kq ≤ k) ∧ Aside0 (Kd.R (Kd.int .i64) 3 wc w.heap.size (fun k_ => some k_ ≠ ((.slice Ao34 t696.length co34) : Value).ownBlock ∧ some k_ ≠ ((.slice Ao32 t692.length co32) : Value).ownBlock) (.slice Ao35 t687.length co35) t687) ∧ Aside0 (Kd.R (Kd.int .i64) 3 wc w.heap.size (fun k_ => some k_ ≠ ((.slice Ao35 t687.length co35) : Value).ownBlock ∧ some k_ ≠ ((.slice Ao32 t692.length co32) : Value).ownBlock) (.slice Ao34 t696.length co34) t696) ∧ Aside0 (Kd.R (Kd.int .i64) 3 wc w.heap.size (fun k_ => some k_ ≠ ((.slice Ao35 t687.length co35) : Value).ownBlock ∧ some k_ ≠ ((.slice Ao34 t696.length co34) : Value).ownBlock) (.slice Ao32 t692.length co32) t707) ∧ Aside0 (wc.heap[gb681]? = some (.cells #[.int .i64 a0_0, (.slice A0_1 l0_1.length c0_1)] 24 (0, 0))) ∧ Aside0 (wc.heap[gb695]? = some (.cells #[.int .i64 t691, (.slice Ao32 t692.length co32)] 27 (0, 0))) ∧ Aside0 (Below w.heap.size w wc))
          case first =>
            have H := HC19.out
            clear HC19
            by_cases c42 : t706 < 0
            · rw [if_pos c42] at H
              have c42b0 : decide (t706 < 0) = true := decide_eq_true c42
              clear c42
              (first | rw [c42b0] | (simp only [i64_w, i32_w]; rw [c42b0]) | skip)
              have H' := Aside0.mk H
              clear H
              go_wp2
              go_meet
              case rel => exact ⟨_, (true), (by first | rfl | (simp; done) | (simp [*]; done)), H', ⟨by first | omega | exact Nat.le_refl _⟩, ⟨by (with_reducible repeat (first | apply Kd.R_alloc | apply Kd.R_drewN | apply Kd.R_drew)); exact Kd.R_mono HO689.out (fun _ hk => by first | exact ⟨hk.2.2.1, hk.2.1⟩ | simp [hk])⟩, ⟨by (with_reducible repeat (first | apply Kd.R_alloc | apply Kd.R_drewN | apply Kd.R_drew)); exact Kd.R_mono HO698.out (fun _ hk => by first | exact ⟨hk.2.1, hk.2.2.1⟩ | simp [hk])⟩, ⟨by (with_reducible repeat (first | apply Kd.R_alloc | apply Kd.R_drewN | apply Kd.R_drew)); exact Kd.R_mono HO694.out (fun _ hk => by first | exact ⟨hk.1.1.2, hk.1.2⟩ | simp [hk])⟩, ⟨by (with_reducible repeat (first | refine blk_drewN ?_ _ | refine blk_drew ?_ | refine blk_alloc ?_ _)); exact BK681.out⟩, ⟨by (with_reducible repeat (first | refine blk_drewN ?_ _ | refine blk_drew ?_ | refine blk_alloc ?_ _)); exact BK695.out⟩, ⟨by repeat (first | (with_reducible first | exact HB.out | apply below_alloc | apply pw_below_drewN | apply below_drew1 | refine below_set ?_ GE681.out | refine below_set ?_ GE695.out) | exact HB.out)⟩⟩
            · rw [if_neg c42] at H
              have c42b0 : decide (t706 < 0) = false := decide_eq_false c42
              clear c42
              (first | rw [c42b0] | (simp only [i64_w, i32_w]; rw [c42b0]) | skip)
              replace H := Option.bind_eq_some_iff.mp H
              obtain ⟨t708, A430, H⟩ := H
              replace H : (if t708 = true then (laws_FnExactPoleWay.j0 k a1 t687 t690 t696 (t699 != t690) a0_0 l0_1) else (none)) = some r := H
              have A43 := Aside0.mk A430
              clear A430
              by_cases c44 : t708 = true
              · subst c44
                have H1 : (laws_FnExactPoleWay.j0 k a1 t687 t690 t696 (t699 != t690) a0_0 l0_1) = some r := by rw [if_pos rfl] at H; exact H
                clear H
                have H := H1
                clear H1
                have H' := Aside0.mk H
                clear H
                go_wp2_with (first | (go_at_call 54; (with_reducible refine (laws_eqIntS.calls k _ _ t696 _ _ t687 true _ ?side1 ?side2 ?side3 ?side4 A43.out).mono ?_); (case side1 => repeat (first | exact (Kd.R_reads' HO698.out).2.2 | (with_reducible refine Kd.C_alloc ?_ _) | (with_reducible refine Kd.C_drewN ?_ _) | (with_reducible refine Kd.C_drew ?_))); (case side2 => exact (Kd.R_reads' HO698.out).2.1); (case side3 => repeat (first | exact (Kd.R_reads' HO689.out).2.2 | (with_reducible refine Kd.C_alloc ?_ _) | (with_reducible refine Kd.C_drewN ?_ _) | (with_reducible refine Kd.C_drew ?_))); (case side4 => exact (Kd.R_reads' HO689.out).2.1); rintro e w' ⟨rfl, ⟨nd, rfl⟩⟩))
                go_meet
                case rel => exact ⟨_, ((t699 != t690)), (by first | rfl | (simp; done) | (simp [*]; done)), H', ⟨by first | omega | exact Nat.le_refl _⟩, ⟨by (with_reducible repeat (first | apply Kd.R_alloc | apply Kd.R_drewN | apply Kd.R_drew)); exact Kd.R_mono HO689.out (fun _ hk => by first | exact ⟨hk.2.2.1, hk.2.1⟩ | simp [hk])⟩, ⟨by (with_reducible repeat (first | apply Kd.R_alloc | apply Kd.R_drewN | apply Kd.R_drew)); exact Kd.R_mono HO698.out (fun _ hk => by first | exact ⟨hk.2.1, hk.2.2.1⟩ | simp [hk])⟩, ⟨by (with_reducible repeat (first | apply Kd.R_alloc | apply Kd.R_drewN | apply Kd.R_drew)); exact Kd.R_mono HO694.out (fun _ hk => by first | exact ⟨hk.1.1.2, hk.1.2⟩ | simp [hk])⟩, ⟨by (with_reducible repeat (first | refine blk_drewN ?_ _ | refine blk_drew ?_ | refine blk_alloc ?_ _)); exact BK681.out⟩, ⟨by (with_reducible repeat (first | refine blk_drewN ?_ _ | refine blk_drew ?_ | refine blk_alloc ?_ _)); exact BK695.out⟩, ⟨by repeat (first | (with_reducible first | exact HB.out | apply below_alloc | apply pw_below_drewN | apply below_drew1 | refine below_set ?_ GE681.out | refine below_set ?_ GE695.out) | exact HB.out)⟩⟩
              · replace c44 := Bool.eq_false_iff.mpr c44
                subst c44
                have H1 : (none) = some r := by rw [if_neg (show ¬ (false = true) by decide)] at H; exact H
                clear H
                have H := H1
                clear H1
                exact absurd H (by simp)
          case rest =>
            clear HC19
            try clear c1
            try clear c2
            try clear p2
            try clear c3
            try clear c4
            try clear c4b0
            try clear c5
            try clear c12
            try clear c13
            try clear c14
            try clear c14b0
            try clear c14b1
            try clear c14b2
            try clear c17
            try clear c21
            try clear c23
            try clear c25
            try clear c28
            try clear c30
            try clear c42
            try clear c42b0
            try clear c44
            try clear hcz21_0
            try clear hcz21_1
            try clear hcz23_0
            try clear hcz23_1
            try clear hcz27_0
            try clear hcz27_1
            try clear hcz31_0
            try clear hcz31_1
            try clear hcz40_0
            try clear hcz40_1
            try clear hcz6_0
            try clear hcz6_1
            try clear hfz21_0
            try clear hfz21_1
            try clear hfz23_0
            try clear hfz23_1
            try clear hfz27_0
            try clear hfz27_1
            try clear hfz31_0
            try clear hfz31_1
            try clear hfz40_0
            try clear hfz40_1
            try clear hfz6_0
            try clear hfz6_1
            obtain ⟨kq, x65_18, rfl, HA, HJ18, HO_6, HO_9, HO_696001, BK681, BK695, HB⟩ := hcut
            have hl696001_18 := (Kd.R_reads' HO_696001.out).1
            rw [hl696001_18] at HO_696001
            (try simp only [hl696001_18])
            (try simp only [hl696001_18] at BK681)
            (try simp only [hl696001_18] at BK695)
            (try simp only [hl696001_18] at HO_6)
            (try simp only [hl696001_18] at HO_9)
            cases kq with
            | zero => exact absurd HA.out (by simp [laws_FnExactPoleWay.j0])
            | succ kj18 =>
              have H := HA.out
              clear HA
              simp only [laws_FnExactPoleWay.j0] at H
              by_cases c45 : x65_18 = true
              · subst c45
                have H1 : (none) = some r := by rw [if_pos rfl] at H; exact H
                clear H
                have H := H1
                clear H1
                exact absurd H (by simp)
              · replace c45 := Bool.eq_false_iff.mpr c45
                subst c45
                have H1 : ((laws_markIntS.f kj18 t696 1).bind fun bt709 => ((laws_heldIntS.f kj18 bt709.2 1).bind fun t711 => (if t711 < 0 then (none) else (if t711 = bt709.1 then ((laws_toPole.f kj18 a0_0 l0_1).bind fun bt712 => ((impl_PoleWay.f kj18 bt712.1 bt712.2 a1).bind fun bt716 => ((laws_eqIntS.f kj18 bt716.1 t687).bind fun t720 => (if t720 = true then (if (bt716.2 != t690) = true then (none) else ((laws_heldIntS.f kj18 bt709.2 1).bind fun t721 => (if t721 < 0 then (none) else (if t721 = bt709.1 then (some true) else (none))))) else (none))))) else (none))))) = some r := by rw [if_neg (show ¬ (false = true) by decide)] at H; exact H
                clear H
                have H := H1
                clear H1
                replace H := Option.bind_eq_some_iff.mp H
                obtain ⟨⟨t709, t710⟩, A460, H⟩ := H
                replace H : ((laws_heldIntS.f kj18 t710 1).bind fun t711 => (if t711 < 0 then (none) else (if t711 = t709 then ((laws_toPole.f kj18 a0_0 l0_1).bind fun bt712 => ((impl_PoleWay.f kj18 bt712.1 bt712.2 a1).bind fun bt716 => ((laws_eqIntS.f kj18 bt716.1 t687).bind fun t720 => (if t720 = true then (if (bt716.2 != t690) = true then (none) else ((laws_heldIntS.f kj18 t710 1).bind fun t721 => (if t721 < 0 then (none) else (if t721 = t709 then (some true) else (none))))) else (none))))) else (none)))) = some r := H
                have A46 := Aside0.mk A460
                clear A460
                replace H := Option.bind_eq_some_iff.mp H
                obtain ⟨t711, A470, H⟩ := H
                replace H : (if t711 < 0 then (none) else (if t711 = t709 then ((laws_toPole.f kj18 a0_0 l0_1).bind fun bt712 => ((impl_PoleWay.f kj18 bt712.1 bt712.2 a1).bind fun bt716 => ((laws_eqIntS.f kj18 bt716.1 t687).bind fun t720 => (if t720 = true then (if (bt716.2 != t690) = true then (none) else ((laws_heldIntS.f kj18 t710 1).bind fun t721 => (if t721 < 0 then (none) else (if t721 = t709 then (some true) else (none))))) else (none))))) else (none))) = some r := H
                have A47 := Aside0.mk A470
                clear A470
                by_cases c48 : t711 < 0
                · rw [if_pos c48] at H
                  exact absurd H (by simp)
                · rw [if_neg c48] at H
                  have c48b0 : decide (t711 < 0) = false := decide_eq_false c48
                  clear c48
                  by_cases c49 : t711 = t709
                  · rw [if_pos c49] at H
                    have c49b0 : (t711 == t709) = true := beq_iff_eq.mpr c49
                    have c49b1 : (t711 != t709) = false := bne_eq_false_iff_eq.mpr c49
                    clear c49
                    replace H := Option.bind_eq_some_iff.mp H
                    obtain ⟨⟨t712, t713⟩, A500, H⟩ := H
                    replace H : ((impl_PoleWay.f kj18 t712 t713 a1).bind fun bt716 => ((laws_eqIntS.f kj18 bt716.1 t687).bind fun t720 => (if t720 = true then (if (bt716.2 != t690) = true then (none) else ((laws_heldIntS.f kj18 t710 1).bind fun t721 => (if t721 < 0 then (none) else (if t721 = t709 then (some true) else (none))))) else (none)))) = some r := H
                    have A50 := Aside0.mk A500
                    clear A500
                    replace H := Option.bind_eq_some_iff.mp H
                    obtain ⟨⟨t716, t719⟩, A510, H⟩ := H
                    replace H : ((laws_eqIntS.f kj18 t716 t687).bind fun t720 => (if t720 = true then (if (t719 != t690) = true then (none) else ((laws_heldIntS.f kj18 t710 1).bind fun t721 => (if t721 < 0 then (none) else (if t721 = t709 then (some true) else (none))))) else (none))) = some r := H
                    have A51 := Aside0.mk A510
                    clear A510
                    replace H := Option.bind_eq_some_iff.mp H
                    obtain ⟨t720, A520, H⟩ := H
                    replace H : (if t720 = true then (if (t719 != t690) = true then (none) else ((laws_heldIntS.f kj18 t710 1).bind fun t721 => (if t721 < 0 then (none) else (if t721 = t709 then (some true) else (none))))) else (none)) = some r := H
                    have A52 := Aside0.mk A520
                    clear A520
                    by_cases c53 : t720 = true
                    · subst c53
                      have H1 : (if (t719 != t690) = true then (none) else ((laws_heldIntS.f kj18 t710 1).bind fun t721 => (if t721 < 0 then (none) else (if t721 = t709 then (some true) else (none))))) = some r := by rw [if_pos rfl] at H; exact H
                      clear H
                      have H := H1
                      clear H1
                      by_cases c54 : (t719 != t690) = true
                      · rw [if_pos c54] at H
                        exact absurd H (by simp)
                      · rw [if_neg c54] at H
                        have c54b0 : (t719 != t690) = false := by simpa using c54
                        (try (have c54b1 : decide (t719 = t690) = true := by simpa using c54))
                        (try (have c54b2 : (t719 == t690) = true := by simpa using c54))
                        clear c54
                        replace H := Option.bind_eq_some_iff.mp H
                        obtain ⟨t721, A550, H⟩ := H
                        replace H : (if t721 < 0 then (none) else (if t721 = t709 then (some true) else (none))) = some r := H
                        have A55 := Aside0.mk A550
                        clear A550
                        by_cases c56 : t721 < 0
                        · rw [if_pos c56] at H
                          exact absurd H (by simp)
                        · rw [if_neg c56] at H
                          have c56b0 : decide (t721 < 0) = false := decide_eq_false c56
                          clear c56
                          by_cases c57 : t721 = t709
                          · rw [if_pos c57] at H
                            have c57b0 : (t721 == t709) = true := beq_iff_eq.mpr c57
                            have c57b1 : (t721 != t709) = false := bne_eq_false_iff_eq.mpr c57
                            clear c57
                            obtain rfl := Option.some.inj H
                            go_wp2_with (first | ((with_reducible refine gate_callee (f := 55) rfl ?_); refine goesL_ (some 68) rfl rfl Try.func55 (by kernel_rfl) rfl #[.slice Ao34 t696.length co34, .int .i64 1] rfl (by (try simp only [List.map_toArray, List.map_cons, List.map_nil]); first | done | rfl | (simp only [List.length_drop, List.length_take]; rfl)) ?_; (with_reducible refine (laws_markIntS.calls kj18 (fun k_ => some k_ = (.slice Ao34 t696.length co34 : Value).ownBlock) (.slice Ao34 t696.length co34) t696 1 t709 t710 w _ ?side1 ?side2 A46.out).mono ?_); (case side1 => repeat (first | (with_reducible first | exact HB.out | apply below_alloc | apply pw_below_drewN | apply below_drew1 | refine below_set ?_ GE681.out | refine below_set ?_ GE695.out) | exact HB.out)); (case side2 => exact Kd.R_tight rfl HO_9.out); rintro e w58 ⟨rfl, hy0, hb, hkp⟩; refine ⟨_, rfl, ?_⟩; have n0_ := Aside0.mk (Kd.R_mono (ok' := fun k_ => some k_ ≠ (.slice Ao34 t696.length co34 : Value).ownBlock ∧ some k_ ≠ (.slice Ao32 t707.length co32 : Value).ownBlock) (Kd.R_keptB (HO_6.out) hkp (fun k_ hk_ hs_ => by first | exact (hk_.1) hs_ | exact absurd hs_ (by simp [hk_]))) (fun k_ hk_ => by first | exact ⟨hk_.1.1, hk_.1.2⟩ | simp [hk_])); have n1_ := Aside0.mk (Kd.R_reok rfl hy0 (fun k_ e_ => HO_9.out.1 k_ e_)); have n2_ := Aside0.mk (Kd.R_mono (ok' := fun k_ => some k_ ≠ (.slice Ao35 t687.length co35 : Value).ownBlock ∧ some k_ ≠ (.slice Ao34 t696.length co34 : Value).ownBlock) (Kd.R_keptB (HO_696001.out) hkp (fun k_ hk_ hs_ => by first | exact (hk_.2) hs_ | exact absurd hs_ (by simp [hk_]))) (fun k_ hk_ => by first | exact ⟨hk_.1.1, hk_.1.2⟩ | simp [hk_])); have n3_ := Aside0.mk (blk_kept (by (with_reducible repeat (first | refine blk_drewN ?_ _ | refine blk_drew ?_ | refine blk_alloc ?_ _)); exact BK681.out) hkp (fun hs_ => (fun e_ => (Kd.R_ne HO_9.out BK681.out (by decide)) e_) hs_)); have n4_ := Aside0.mk (blk_kept (by (with_reducible repeat (first | refine blk_drewN ?_ _ | refine blk_drew ?_ | refine blk_alloc ?_ _)); exact BK695.out) hkp (fun hs_ => (fun e_ => (Kd.R_ne HO_9.out BK695.out (by decide)) e_) hs_)); have n5_ := Aside0.mk (hb); clear HO_6; clear HO_9; clear HO_696001; clear BK681; clear BK695; clear HB; have HO_6 := n0_; have HO_9 := n1_; have HO_696001 := n2_; have BK681 := n3_; have BK695 := n4_; have HB := n5_; clear n0_ n1_ n2_ n3_ n4_ n5_; (try clear hb); (try clear hkp); (try clear hy0)) | ((with_reducible refine gate_callee (f := 56) rfl ?_); refine goesL_ (some 71) rfl rfl Try.func56 (by kernel_rfl) rfl #[.slice Ao34 t710.length co34, .int .i64 1] rfl (by (try simp only [List.map_toArray, List.map_cons, List.map_nil]); first | done | (rw [show t710.length = t696.length from (Kd.R_reads' HO_9.out).1.symm] <;> rfl) | rfl | (simp only [List.length_drop, List.length_take]; rfl)) ?_; (with_reducible refine (laws_heldIntS.calls kj18 _ _ t710 1 t711 _ ?side1 ?side2 A47.out).mono ?_); (case side1 => repeat (first | exact (Kd.R_reads' HO_9.out).2.2 | (with_reducible refine Kd.C_alloc ?_ _) | (with_reducible refine Kd.C_drewN ?_ _) | (with_reducible refine Kd.C_drew ?_))); (case side2 => rw [show t710.length = t696.length from (Kd.R_reads' HO_9.out).1.symm]; exact (Kd.R_reads' HO_9.out).2.1); rintro e w' ⟨rfl, ⟨nd, rfl⟩⟩; refine ⟨_, rfl, ?_⟩; have hnb59 := NB681_695.out; have hnc59 := NB695_681.out; have hcz60_0 : w58.cell? ⟨gb681, 0, none⟩ = some (.int .i64 a0_0) := (blk_cell BK681.out 0).trans rfl; have hcz60_1 : w58.cell? ⟨gb681, 1, none⟩ = some (.slice A0_1 l0_1.length c0_1) := (blk_cell BK681.out 1).trans rfl; have hfz60_0 := blk_frozen BK681.out 0; have hfz60_1 := blk_frozen BK681.out 1) | ((with_reducible refine gate_callee (f := 23) rfl ?_); refine goesL_ (some 79) rfl rfl Try.func23 (by kernel_rfl) rfl #[.agg #[.int .i64 a0_0, .slice A0_1 l0_1.length c0_1]] rfl (by (try simp only [List.map_toArray, List.map_cons, List.map_nil]); first | done | rfl | (simp only [List.length_drop, List.length_take]; rfl)) ?_; (with_reducible refine (laws_toPole.calls kj18 a0_0 _ _ l0_1 t712 t713 _ ?side1 ?side2 A50.out).mono ?_); (case side1 => repeat (first | exact (Kd.C_below HR0_1.out (by repeat (first | (with_reducible first | exact HB.out | apply below_alloc | apply pw_below_drewN | apply below_drew1 | refine below_set ?_ GE681.out | refine below_set ?_ GE695.out) | exact HB.out))) | (with_reducible refine Kd.C_alloc ?_ _) | (with_reducible refine Kd.C_drewN ?_ _) | (with_reducible refine Kd.C_drew ?_))); (case side2 => exact HC0_1.out); rintro e w61 ⟨v714, rfl, ho0, hb⟩; refine ⟨_, rfl, ?_⟩; have n0_ := Aside0.mk (Kd.R_elder' (by (with_reducible repeat (first | apply Kd.R_alloc | apply Kd.R_drewN | apply Kd.R_drew)); exact HO_6.out) (Kd.R_base ho0) hb); have n1_ := Aside0.mk (Kd.R_elder' (by (with_reducible repeat (first | apply Kd.R_alloc | apply Kd.R_drewN | apply Kd.R_drew)); exact HO_9.out) (Kd.R_base ho0) hb); have n2_ := Aside0.mk (Kd.R_elder' (by (with_reducible repeat (first | apply Kd.R_alloc | apply Kd.R_drewN | apply Kd.R_drew)); exact HO_696001.out) (Kd.R_base ho0) hb); have n3_ := Aside0.mk (Kd.R_lower (Kd.R_new' (Kd.R_new' (Kd.R_new' ho0 (Kd.R_lt (by (with_reducible repeat (first | apply Kd.R_alloc | apply Kd.R_drewN | apply Kd.R_drew)); exact HO_6.out))) (Kd.R_lt (by (with_reducible repeat (first | apply Kd.R_alloc | apply Kd.R_drewN | apply Kd.R_drew)); exact HO_9.out))) (Kd.R_lt (by (with_reducible repeat (first | apply Kd.R_alloc | apply Kd.R_drewN | apply Kd.R_drew)); exact HO_696001.out))) (below_size (by repeat (first | (with_reducible first | exact HB.out | apply below_alloc | apply pw_below_drewN | apply below_drew1 | refine below_set ?_ GE681.out | refine below_set ?_ GE695.out) | exact HB.out)))); have n4_ := Aside0.mk (blk_below (g := gb681) (o := .cells #[.int .i64 a0_0, .slice A0_1 l0_1.length c0_1] 24 (0, 0)) (by (with_reducible repeat (first | refine blk_drewN ?_ _ | refine blk_drew ?_ | refine blk_alloc ?_ _)); exact BK681.out) hb); have n5_ := Aside0.mk (blk_below (g := gb695) (o := .cells #[.int .i64 t691, .slice Ao32 t707.length co32] 27 (0, 0)) (by (with_reducible repeat (first | refine blk_drewN ?_ _ | refine blk_drew ?_ | refine blk_alloc ?_ _)); exact BK695.out) hb); have n6_ := Aside0.mk (below_step (by repeat (first | (with_reducible first | exact HB.out | apply below_alloc | apply pw_below_drewN | apply below_drew1 | refine below_set ?_ GE681.out | refine below_set ?_ GE695.out) | exact HB.out)) hb); clear HO_6; clear HO_9; clear HO_696001; clear BK681; clear BK695; clear HB; have HO_6 := n0_; have HO_9 := n1_; have HO_696001 := n2_; have HO715 := n3_; have BK681 := n4_; have BK695 := n5_; have HB := n6_; clear n0_ n1_ n2_ n3_ n4_ n5_ n6_; (try clear hb); (try clear hb2); (try clear hk); (try clear hi); (try clear ho0); obtain ⟨Ao62, co62, eo62⟩ := Kd.R_slice HO715.out; subst eo62) | ((with_reducible refine gate_callee (f := 53) rfl ?_); refine goesL_ (some 81) rfl rfl Try.func53 (by kernel_rfl) rfl #[.agg #[.int .i64 t712, .slice Ao62 t713.length co62], .int .i64 a1] rfl (by (try simp only [List.map_toArray, List.map_cons, List.map_nil]); first | done | rfl | (simp only [List.length_drop, List.length_take]; rfl)) ?_; (with_reducible refine (impl_PoleWay.calls kj18 t712 _ _ t713 a1 t716 t719 _ ?side1 ?side2 A51.out).mono ?_); (case side1 => repeat (first | exact (Kd.R_reads' HO715.out).2.2 | (with_reducible refine Kd.C_alloc ?_ _) | (with_reducible refine Kd.C_drewN ?_ _) | (with_reducible refine Kd.C_drew ?_))); (case side2 => exact (Kd.R_reads' HO715.out).2.1); rintro e w63 ⟨v717, rfl, ho0, hb⟩; refine ⟨_, rfl, ?_⟩; have n0_ := Aside0.mk (Kd.R_elder' (by (with_reducible repeat (first | apply Kd.R_alloc | apply Kd.R_drewN | apply Kd.R_drew)); exact HO_6.out) (Kd.R_base ho0) hb); have n1_ := Aside0.mk (Kd.R_elder' (by (with_reducible repeat (first | apply Kd.R_alloc | apply Kd.R_drewN | apply Kd.R_drew)); exact HO_9.out) (Kd.R_base ho0) hb); have n2_ := Aside0.mk (Kd.R_elder' (by (with_reducible repeat (first | apply Kd.R_alloc | apply Kd.R_drewN | apply Kd.R_drew)); exact HO_696001.out) (Kd.R_base ho0) hb); have n3_ := Aside0.mk (Kd.R_elder' (by (with_reducible repeat (first | apply Kd.R_alloc | apply Kd.R_drewN | apply Kd.R_drew)); exact HO715.out) (Kd.R_base ho0) hb); have n4_ := Aside0.mk (Kd.R_lower (Kd.R_new' (Kd.R_new' (Kd.R_new' (Kd.R_new' ho0 (Kd.R_lt (by (with_reducible repeat (first | apply Kd.R_alloc | apply Kd.R_drewN | apply Kd.R_drew)); exact HO_6.out))) (Kd.R_lt (by (with_reducible repeat (first | apply Kd.R_alloc | apply Kd.R_drewN | apply Kd.R_drew)); exact HO_9.out))) (Kd.R_lt (by (with_reducible repeat (first | apply Kd.R_alloc | apply Kd.R_drewN | apply Kd.R_drew)); exact HO_696001.out))) (Kd.R_lt (by (with_reducible repeat (first | apply Kd.R_alloc | apply Kd.R_drewN | apply Kd.R_drew)); exact HO715.out))) (below_size (by repeat (first | (with_reducible first | exact HB.out | apply below_alloc | apply pw_below_drewN | apply below_drew1 | refine below_set ?_ GE681.out | refine below_set ?_ GE695.out) | exact HB.out)))); have n5_ := Aside0.mk (blk_below (g := gb681) (o := .cells #[.int .i64 a0_0, .slice A0_1 l0_1.length c0_1] 24 (0, 0)) (by (with_reducible repeat (first | refine blk_drewN ?_ _ | refine blk_drew ?_ | refine blk_alloc ?_ _)); exact BK681.out) hb); have n6_ := Aside0.mk (blk_below (g := gb695) (o := .cells #[.int .i64 t691, .slice Ao32 t707.length co32] 27 (0, 0)) (by (with_reducible repeat (first | refine blk_drewN ?_ _ | refine blk_drew ?_ | refine blk_alloc ?_ _)); exact BK695.out) hb); have n7_ := Aside0.mk (below_step (by repeat (first | (with_reducible first | exact HB.out | apply below_alloc | apply pw_below_drewN | apply below_drew1 | refine below_set ?_ GE681.out | refine below_set ?_ GE695.out) | exact HB.out)) hb); clear HO_6; clear HO_9; clear HO_696001; clear HO715; clear BK681; clear BK695; clear HB; have HO_6 := n0_; have HO_9 := n1_; have HO_696001 := n2_; have HO715 := n3_; have HO718 := n4_; have BK681 := n5_; have BK695 := n6_; have HB := n7_; clear n0_ n1_ n2_ n3_ n4_ n5_ n6_ n7_; (try clear hb); (try clear hb2); (try clear hk); (try clear hi); (try clear ho0); obtain ⟨Ao64, co64, eo64⟩ := Kd.R_slice HO718.out; subst eo64) | ((with_reducible refine gate_callee (f := 54) rfl ?_); refine goesL_ (some 86) rfl rfl Try.func54 (by kernel_rfl) rfl #[.slice Ao64 t716.length co64, .slice Ao35 t687.length co35] rfl (by (try simp only [List.map_toArray, List.map_cons, List.map_nil]); first | done | rfl | (simp only [List.length_drop, List.length_take]; rfl)) ?_; (with_reducible refine (laws_eqIntS.calls kj18 _ _ t716 _ _ t687 true _ ?side1 ?side2 ?side3 ?side4 A52.out).mono ?_); (case side1 => repeat (first | exact (Kd.R_reads' HO718.out).2.2 | (with_reducible refine Kd.C_alloc ?_ _) | (with_reducible refine Kd.C_drewN ?_ _) | (with_reducible refine Kd.C_drew ?_))); (case side2 => exact (Kd.R_reads' HO718.out).2.1); (case side3 => repeat (first | exact (Kd.R_reads' HO_6.out).2.2 | (with_reducible refine Kd.C_alloc ?_ _) | (with_reducible refine Kd.C_drewN ?_ _) | (with_reducible refine Kd.C_drew ?_))); (case side4 => exact (Kd.R_reads' HO_6.out).2.1); rintro e w' ⟨rfl, ⟨nd, rfl⟩⟩; refine ⟨_, rfl, ?_⟩) | ((with_reducible refine gate_callee (f := 56) rfl ?_); refine goesL_ (some 95) rfl rfl Try.func56 (by kernel_rfl) rfl #[.slice Ao34 t710.length co34, .int .i64 1] rfl (by (try simp only [List.map_toArray, List.map_cons, List.map_nil]); first | done | (rw [show t710.length = t696.length from (Kd.R_reads' HO_9.out).1.symm] <;> rfl) | rfl | (simp only [List.length_drop, List.length_take]; rfl)) ?_; (with_reducible refine (laws_heldIntS.calls kj18 _ _ t710 1 t721 _ ?side1 ?side2 A55.out).mono ?_); (case side1 => repeat (first | exact (Kd.R_reads' HO_9.out).2.2 | (with_reducible refine Kd.C_alloc ?_ _) | (with_reducible refine Kd.C_drewN ?_ _) | (with_reducible refine Kd.C_drew ?_))); (case side2 => rw [show t710.length = t696.length from (Kd.R_reads' HO_9.out).1.symm]; exact (Kd.R_reads' HO_9.out).2.1); rintro e w' ⟨rfl, ⟨nd, rfl⟩⟩; refine ⟨_, rfl, ?_⟩))
                            go_ret
                            exact ⟨by first | rfl | (simp [errW_none, errW_some] <;> rfl) | (simp [*, errW_none, errW_some] <;> rfl), by repeat (first | (with_reducible first | exact HB.out | apply below_alloc | apply pw_below_drewN | apply below_drew1 | refine below_set ?_ GE681.out | refine below_set ?_ GE695.out) | exact HB.out)⟩
                          · rw [if_neg c57] at H
                            exact absurd H (by simp)
                    · replace c53 := Bool.eq_false_iff.mpr c53
                      subst c53
                      have H1 : (none) = some r := by rw [if_neg (show ¬ (false = true) by decide)] at H; exact H
                      clear H
                      have H := H1
                      clear H1
                      exact absurd H (by simp)
                  · rw [if_neg c49] at H
                    exact absurd H (by simp)
        · replace c17 := Bool.eq_false_iff.mpr c17
          subst c17
          have H1 : (none) = some r := by rw [if_neg (show ¬ (false = true) by decide)] at H; exact H
          clear H
          have H := H1
          clear H1
          exact absurd H (by simp)
    · replace c13 := Bool.eq_false_iff.mpr c13
      subst c13
      have H1 : (none) = some r := by rw [if_neg (show ¬ (false = true) by decide)] at H; exact H
      clear H
      have H := H1
      clear H1
      exact absurd H (by simp)

end Go.Proofs.Ytddfakhlncihoaa.Q
