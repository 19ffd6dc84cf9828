/- Each function below comes to the Lean function beside it (theorems '.calls'); no condition beyond each theorem's own. Written by our program oprint.py over the kit's print. -/
import Derived.Test.YtnagcjhgojchlacQwParts
import Derived.Test.YtnagcjhgojchlacQm13
import Derived.Test.YtnagcjhgojchlacQm0
import Derived.Test.YtnagcjhgojchlacQm5
import Derived.Test.YtnagcjhgojchlacQm6
import Derived.Test.YtnagcjhgojchlacQm7
import Derived.Test.YtnagcjhgojchlacQm8
import Derived.Test.YtnagcjhgojchlacQm9
import Derived.Test.YtnagcjhgojchlacQm10
import Derived.Test.YtnagcjhgojchlacQm11
import Derived.Test.YtnagcjhgojchlacQm12

namespace Go.Proofs.Ytnagcjhgojchlac.Q
open Go.RowKit Go.Proofs.YtnagcjhgojchlacW.PrintWords Go.Proofs.YtnagcjhgojchlacW.PrintLast Go.Proofs.YtnagcjhgojchlacW.PrintMore
attribute [local go_sem] max2_int min2_int max_two min_two max_three min_three max_four min_four   -- for this text's walks alone
set_option linter.unusedVariables false
set_option linter.unusedSimpArgs false

set_option maxHeartbeats 8000000 in
set_option maxRecDepth 100000 in
def laws_FnRungsCompare_p0 : Part1 (∀ (k : Nat) (A0 : Option Addr) (c0 : Nat) (l0 : List Int) (A1 : Option Addr) (c1 : Nat) (l1 : List Int) (r : Bool) (w : World) (hr0 : Kd.C (Kd.int .u8) w A0 l0.length l0) (hc0 : l0.length ≤ c0) (hr1 : Kd.C (Kd.int .u8) w A1 l1.length l1) (hc1 : l1.length ≤ c1) (h : laws_FnRungsCompare.f k l0 l1 = some r),
  Calls Try.prog 3 #[.slice A0 l0.length c0, .slice A1 l1.length c1] w fun e w' => e = .returned (.bool r) ∧ Below w.heap.size w w') := by
 refine Part1.mk ?Q1 (fun hq1 => ?main)
 case main =>
  intro k A0 c0 l0 A1 c1 l1 r w hr0 hc0 hr1 hc1 h
  have hu26 := Try.underlying26; have HR0 := Aside0.mk hr0; have HC0 := Aside0.mk hc0; clear hr0 hc0; have HR1 := Aside0.mk hr1; have HC1 := Aside0.mk hc1; clear hr1 hc1; have HB := Zm (Below.refl w.heap.size w); have H : ((laws_big.f l0 l1).bind fun t466 => (if t466 = true then (some true) else ((spec_DrawSortedBy.f k l0).bind fun bt467 => ((impl_SortedBy.f k bt467.1 bt467.2.1 bt467.2.2).bind fun bt475 => ((spec_SortedBy.f k bt467.1 bt467.2.1 bt467.2.2).bind fun bt479 => ((impl_ExchangesOf.f k bt467.1 bt467.2.1 bt467.2.2).bind fun bt483 => ((spec_ExchangesOf.f k bt467.1 bt467.2.1 bt467.2.2).bind fun bt487 => (if (bt475.2 != bt479.2) = true then (none) else ((laws_kSame.f k bt475.1 bt479.1).bind fun t491 => (if t491 = true then (if (bt483.2 != bt487.2) = true then (none) else ((laws_kSame.f k bt483.1 bt487.1).bind fun t492 => (if t492 = true then (laws_FnRungsCompare.j0 k l1 bt467.2.2 bt475.1 bt475.2 bt483.1 (bt483.2 != bt475.2) bt467.1 bt467.2.1) else (none)))) else (none))))))))))) = some r := h; clear h
  replace H := Option.bind_eq_some_iff.mp H; obtain ⟨t466, A30, H⟩ := H; (try dsimp only at H); have A3 := Aside0.mk A30; clear A30
  by_cases c4 : t466 = true
  · as_aux_lemma =>
   subst c4
   rw [if_pos rfl] at H
   obtain rfl := Option.some.inj H
   go_enter Try.func3, Try.ntmps3
   go_wp2_with (first | ((with_reducible refine gate_callee (f := 4) rfl ?_); refine Ga (some 63) Try.func4 #[.slice A0 l0.length c0, .slice A1 l1.length c1] (h := ?_); (with_reducible refine (laws_big.calls _ _ l0 _ _ l1 true _ ?side1 ?side2 ?side3 ?side4 A3.out).mono ?_); (case side1 => repeat (first | exact HR0.out | (with_reducible refine Kd.C_alloc ?_ _) | (with_reducible refine Kd.C_drewN ?_ _) | (with_reducible refine Kd.C_drew ?_))); (case side2 => exact HC0.out); (case side3 => repeat (first | exact HR1.out | (with_reducible refine Kd.C_alloc ?_ _) | (with_reducible refine Kd.C_drewN ?_ _) | (with_reducible refine Kd.C_drew ?_))); (case side4 => exact HC1.out); rintro e w' ⟨rfl, ⟨nd, rfl⟩⟩; refine ⟨_, rfl, ?_⟩))
   go_ret
   exact ⟨by first | rfl | (simp [errW_none, errW_some] <;> rfl) | (simp [*, errW_none, errW_some] <;> rfl), Zl HB⟩
  ·
   replace c4 := Bool.eq_false_iff.mpr c4
   subst c4
   rw [if_neg Bool.false_ne_true] at H
   replace H := Option.bind_eq_some_iff.mp H; obtain ⟨⟨t467, t468, t471⟩, A50, H⟩ := H; (try dsimp only at H); have A5 := Aside0.mk A50; clear A50; replace H := Option.bind_eq_some_iff.mp H; obtain ⟨⟨t475, t478⟩, A60, H⟩ := H; (try dsimp only at H); have A6 := Aside0.mk A60; clear A60; replace H := Option.bind_eq_some_iff.mp H; obtain ⟨⟨t479, t482⟩, A70, H⟩ := H; (try dsimp only at H); have A7 := Aside0.mk A70; clear A70; replace H := Option.bind_eq_some_iff.mp H; obtain ⟨⟨t483, t486⟩, A80, H⟩ := H; (try dsimp only at H); have A8 := Aside0.mk A80; clear A80; replace H := Option.bind_eq_some_iff.mp H; obtain ⟨⟨t487, t490⟩, A90, H⟩ := H; (try dsimp only at H); have A9 := Aside0.mk A90; clear A90; have HC10 := Aside0.mk H; clear H
   go_enter Try.func3, Try.ntmps3
   go_upto_region 8 with (first | ((with_reducible refine gate_callee (f := 4) rfl ?_); refine Ga (some 63) Try.func4 #[.slice A0 l0.length c0, .slice A1 l1.length c1] (h := ?_); (with_reducible refine (laws_big.calls _ _ l0 _ _ l1 false _ ?side1 ?side2 ?side3 ?side4 A3.out).mono ?_); (case side1 => repeat (first | exact HR0.out | (with_reducible refine Kd.C_alloc ?_ _) | (with_reducible refine Kd.C_drewN ?_ _) | (with_reducible refine Kd.C_drew ?_))); (case side2 => exact HC0.out); (case side3 => repeat (first | exact HR1.out | (with_reducible refine Kd.C_alloc ?_ _) | (with_reducible refine Kd.C_drewN ?_ _) | (with_reducible refine Kd.C_drew ?_))); (case side4 => exact HC1.out); rintro e w' ⟨rfl, ⟨nd, rfl⟩⟩; refine ⟨_, rfl, ?_⟩) | ((with_reducible refine gate_callee (f := 5) rfl ?_); refine Ga (some 66) Try.func5 #[.slice A0 l0.length c0] (h := ?_); (with_reducible refine (spec_DrawSortedBy.calls k _ _ l0 t467 t468 t471 _ ?side1 ?side2 A5.out).mono ?_); (case side1 => repeat (first | exact HR0.out | (with_reducible refine Kd.C_alloc ?_ _) | (with_reducible refine Kd.C_drewN ?_ _) | (with_reducible refine Kd.C_drew ?_))); (case side2 => exact HC0.out); rintro e w11 ⟨v469, v472, rfl, ho0, ho1, hb⟩; refine ⟨_, rfl, ?_⟩; have HO470 := Zj ho0 HB; have HO473 := Zj ho1 HB; replace HB := Zh HB hb; (try clear hb); (try clear ho0); (try clear ho1)) | ((with_reducible refine gate_dst (N := 5) rfl ?_); (try (refine gate_guard (by rfl) ?_; dsimp only)); refine box_event ?hg (N := 5) ?hd (cs := #[.int .i64 0, .slice none 0 0]) (t := 26) ?hr ?_; (case hd => rfl); (case hg => rfl); (case hr => first | (go_simp; done) | (go_simp; rfl)); intro gb474 hg w12 hbox hb; replace HO470 := Zo HO470 hb; replace HO473 := Zo HO473 hb; have BK474 := Zm (hbox); have GW474 := Zx hg HB; have GE474 := Zx hg HB; replace HB := Zh HB hb; clear hb hbox hg; have hcz13_0 : w12.cell? ⟨gb474, 0, none⟩ = some (.int .i64 0) := (blk_cell BK474.out 0).trans rfl; have hcz13_1 : w12.cell? ⟨gb474, 1, none⟩ = some (.slice none 0 0) := (blk_cell BK474.out 1).trans rfl; have hfz13_0 := blk_frozen BK474.out 0; have hfz13_1 := blk_frozen BK474.out 1; obtain ⟨Ao14, co14, eo14⟩ := Kd.R_slice HO470.out; subst eo14; obtain ⟨Ao15, co15, eo15⟩ := Kd.R_slice HO473.out; subst eo15) | ((with_reducible refine gate_callee (f := 6) rfl ?_); refine Ga (some 72) Try.func6 #[.agg #[.int .i64 t467, .slice Ao14 t468.length co14], .slice Ao15 t471.length co15] (h := ?_); (with_reducible refine (impl_SortedBy.calls k t467 _ _ t468 _ _ t471 t475 t478 _ ?side1 ?side2 ?side3 ?side4 A6.out).mono ?_); (case side1 => refine (Kd.R_reads' (e := 3) (base := w.heap.size) (ok := fun k_ => Zn k_ (.slice Ao15 t471.length co15)) (n := t468.length) (c := co14) ?_).2.2; exact (Zy HO470 BK474)); (case side2 => exact (Kd.R_reads' HO470.out).2.1); (case side3 => refine (Kd.R_reads' (e := 3) (base := w.heap.size) (ok := fun k_ => Zn k_ (.slice Ao14 t468.length co14)) (n := t471.length) (c := co15) ?_).2.2; exact (Zy HO473 BK474)); (case side4 => exact (Kd.R_reads' HO473.out).2.1); rintro e w16 ⟨v476, rfl, ho0, hb⟩; refine ⟨_, rfl, ?_⟩; have HO477 := Zj (Zw (Zw ho0 (Zy HO470 BK474)) (Zy HO473 BK474)) HB; replace HO470 := Zm (Kd.R_elder' (Zy HO470 BK474) (Kd.R_base ho0) hb); replace HO473 := Zm (Kd.R_elder' (Zy HO473 BK474) (Kd.R_base ho0) hb); replace BK474 := Zm (blk_below (g := gb474) (o := .cells #[.int .i64 t467, .slice Ao14 t468.length co14] 26 (0, 0)) (by (with_reducible repeat (first | refine blk_drewN ?_ _ | refine blk_drew ?_ | refine blk_alloc ?_ _)); refine blk_put (cs := #[.int .i64 t467, .slice none 0 0]) ?_ 1 _ rfl; (with_reducible repeat (first | refine blk_drewN ?_ _ | refine blk_drew ?_ | refine blk_alloc ?_ _)); refine blk_put (cs := #[.int .i64 0, .slice none 0 0]) ?_ 0 _ rfl; (with_reducible repeat (first | refine blk_drewN ?_ _ | refine blk_drew ?_ | refine blk_alloc ?_ _)); exact BK474.out) hb); replace HB := Zh HB hb; (try clear hb); (try clear ho0); have hcz17_0 : w16.cell? ⟨gb474, 0, none⟩ = some (.int .i64 t467) := (blk_cell BK474.out 0).trans rfl; have hcz17_1 : w16.cell? ⟨gb474, 1, none⟩ = some (.slice Ao14 t468.length co14) := (blk_cell BK474.out 1).trans rfl; have hfz17_0 := blk_frozen BK474.out 0; have hfz17_1 := blk_frozen BK474.out 1) | ((with_reducible refine gate_callee (f := 7) rfl ?_); refine Ga (some 78) Try.func7 #[.agg #[.int .i64 t467, .slice Ao14 t468.length co14], .slice Ao15 t471.length co15] (h := ?_); (with_reducible refine (spec_SortedBy.calls k t467 _ _ t468 _ _ t471 t479 t482 _ ?side1 ?side2 ?side3 ?side4 A7.out).mono ?_); (case side1 => repeat (first | exact (Kd.R_reads' HO470.out).2.2 | (with_reducible refine Kd.C_alloc ?_ _) | (with_reducible refine Kd.C_drewN ?_ _) | (with_reducible refine Kd.C_drew ?_))); (case side2 => exact (Kd.R_reads' HO470.out).2.1); (case side3 => repeat (first | exact (Kd.R_reads' HO473.out).2.2 | (with_reducible refine Kd.C_alloc ?_ _) | (with_reducible refine Kd.C_drewN ?_ _) | (with_reducible refine Kd.C_drew ?_))); (case side4 => exact (Kd.R_reads' HO473.out).2.1); rintro e w18 ⟨v480, rfl, ho0, hb⟩; refine ⟨_, rfl, ?_⟩; have HO481 := Zj (Zv (Zv (Zv ho0 HO470) HO473) HO477) HB; replace HO470 := Zm (Kd.R_elder' (Zr HO470) (Kd.R_base ho0) hb); replace HO473 := Zm (Kd.R_elder' (Zr HO473) (Kd.R_base ho0) hb); replace HO477 := Zm (Kd.R_elder' (Zr HO477) (Kd.R_base ho0) hb); replace BK474 := Zk BK474 hb; replace HB := Zh HB hb; (try clear hb); (try clear ho0); have hcz19_0 : w18.cell? ⟨gb474, 0, none⟩ = some (.int .i64 t467) := (blk_cell BK474.out 0).trans rfl; have hcz19_1 : w18.cell? ⟨gb474, 1, none⟩ = some (.slice Ao14 t468.length co14) := (blk_cell BK474.out 1).trans rfl; have hfz19_0 := blk_frozen BK474.out 0; have hfz19_1 := blk_frozen BK474.out 1) | ((with_reducible refine gate_callee (f := 8) rfl ?_); refine Ga (some 84) Try.func8 #[.agg #[.int .i64 t467, .slice Ao14 t468.length co14], .slice Ao15 t471.length co15] (h := ?_); (with_reducible refine (impl_ExchangesOf.calls k t467 _ _ t468 _ _ t471 t483 t486 _ ?side1 ?side2 ?side3 ?side4 A8.out).mono ?_); (case side1 => repeat (first | exact (Kd.R_reads' HO470.out).2.2 | (with_reducible refine Kd.C_alloc ?_ _) | (with_reducible refine Kd.C_drewN ?_ _) | (with_reducible refine Kd.C_drew ?_))); (case side2 => exact (Kd.R_reads' HO470.out).2.1); (case side3 => repeat (first | exact (Kd.R_reads' HO473.out).2.2 | (with_reducible refine Kd.C_alloc ?_ _) | (with_reducible refine Kd.C_drewN ?_ _) | (with_reducible refine Kd.C_drew ?_))); (case side4 => exact (Kd.R_reads' HO473.out).2.1); rintro e w20 ⟨v484, rfl, ho0, hb⟩; refine ⟨_, rfl, ?_⟩; have HO485 := Zj (Zv (Zv (Zv (Zv ho0 HO470) HO473) HO477) HO481) HB; replace HO470 := Zm (Kd.R_elder' (Zr HO470) (Kd.R_base ho0) hb); replace HO473 := Zm (Kd.R_elder' (Zr HO473) (Kd.R_base ho0) hb); replace HO477 := Zm (Kd.R_elder' (Zr HO477) (Kd.R_base ho0) hb); replace HO481 := Zm (Kd.R_elder' (Zr HO481) (Kd.R_base ho0) hb); replace BK474 := Zk BK474 hb; replace HB := Zh HB hb; (try clear hb); (try clear ho0); have hcz21_0 : w20.cell? ⟨gb474, 0, none⟩ = some (.int .i64 t467) := (blk_cell BK474.out 0).trans rfl; have hcz21_1 : w20.cell? ⟨gb474, 1, none⟩ = some (.slice Ao14 t468.length co14) := (blk_cell BK474.out 1).trans rfl; have hfz21_0 := blk_frozen BK474.out 0; have hfz21_1 := blk_frozen BK474.out 1) | ((with_reducible refine gate_callee (f := 9) rfl ?_); refine Ga (some 90) Try.func9 #[.agg #[.int .i64 t467, .slice Ao14 t468.length co14], .slice Ao15 t471.length co15] (h := ?_); (with_reducible refine (spec_ExchangesOf.calls k t467 _ _ t468 _ _ t471 t487 t490 _ ?side1 ?side2 ?side3 ?side4 A9.out).mono ?_); (case side1 => repeat (first | exact (Kd.R_reads' HO470.out).2.2 | (with_reducible refine Kd.C_alloc ?_ _) | (with_reducible refine Kd.C_drewN ?_ _) | (with_reducible refine Kd.C_drew ?_))); (case side2 => exact (Kd.R_reads' HO470.out).2.1); (case side3 => repeat (first | exact (Kd.R_reads' HO473.out).2.2 | (with_reducible refine Kd.C_alloc ?_ _) | (with_reducible refine Kd.C_drewN ?_ _) | (with_reducible refine Kd.C_drew ?_))); (case side4 => exact (Kd.R_reads' HO473.out).2.1); rintro e w22 ⟨v488, rfl, ho0, hb⟩; refine ⟨_, rfl, ?_⟩; have HO489 := Zj (Zv (Zv (Zv (Zv (Zv ho0 HO470) HO473) HO477) HO481) HO485) HB; replace HO470 := Zm (Kd.R_elder' (Zr HO470) (Kd.R_base ho0) hb); replace HO473 := Zm (Kd.R_elder' (Zr HO473) (Kd.R_base ho0) hb); replace HO477 := Zm (Kd.R_elder' (Zr HO477) (Kd.R_base ho0) hb); replace HO481 := Zm (Kd.R_elder' (Zr HO481) (Kd.R_base ho0) hb); replace HO485 := Zm (Kd.R_elder' (Zr HO485) (Kd.R_base ho0) hb); replace BK474 := Zk BK474 hb; replace HB := Zh HB hb; (try clear hb); (try clear ho0)))
   (try simp only [Act.put, List.setIfInBounds_toArray, List.set_cons_zero, List.set_cons_succ])
   go_cut [117] (fun v117 wc => ∃ (kq : Nat) (x117_9 : Bool), v117 = .bool x117_9 ∧ Aside0 (laws_FnRungsCompare.j0 kq l1 t471 t475 t478 t483 x117_9 t467 t468 = some r) ∧ Aside0 (kq ≤ k) ∧ Aside0 (Kd.R (Kd.int .i64) 3 wc w.heap.size (fun k_ => Zn k_ v476 ∧ Zn k_ v484 ∧ Zn k_ (.slice Ao14 t468.length co14)) (.slice Ao15 t471.length co15) t471) ∧ Aside0 (Kd.R (Kd.int .i64) 3 wc w.heap.size (fun k_ => Zn k_ (.slice Ao15 t471.length co15) ∧ Zn k_ v484 ∧ Zn k_ (.slice Ao14 t468.length co14)) v476 t475) ∧ Aside0 (Kd.R (Kd.int .i64) 3 wc w.heap.size (fun k_ => Zn k_ (.slice Ao15 t471.length co15) ∧ Zn k_ v476 ∧ Zn k_ (.slice Ao14 t468.length co14)) v484 t483) ∧ Aside0 (Kd.R (Kd.int .i64) 3 wc w.heap.size (fun k_ => Zn k_ (.slice Ao15 t471.length co15) ∧ Zn k_ v476 ∧ Zn k_ v484) (.slice Ao14 t468.length co14) t468) ∧ Aside0 (wc.heap[gb474]? = some (.cells #[.int .i64 t467, (.slice Ao14 t468.length co14)] 26 (0, 0))) ∧ Aside0 (Below w.heap.size w wc))
   case first => as_aux_lemma =>
    (repeat (rename World.cell? _ _ = _ => z_; clear z_)); (repeat (rename World.frozen? _ _ = _ => z_; clear z_))
    have H := HC10.out; clear HC10
    by_cases c23 : (t478 != t482) = true
    ·
     rw [if_pos c23] at H
     exact absurd H (by simp)
    ·
     rw [if_neg c23] at H; obtain ⟨c23b0, c23b1, c23b2⟩ := Zd c23; clear c23
     (first | rw [c23b0] | (simp only [i64_w, i32_w]; rw [c23b0]) | skip)
     replace H := Option.bind_eq_some_iff.mp H; obtain ⟨t491, A240, H⟩ := H; (try dsimp only at H); have A24 := Aside0.mk A240; clear A240
     by_cases c25 : t491 = true
     ·
      subst c25
      rw [if_pos rfl] at H
      by_cases c26 : (t486 != t490) = true
      ·
       rw [if_pos c26] at H
       exact absurd H (by simp)
      ·
       rw [if_neg c26] at H; obtain ⟨c26b0, c26b1, c26b2⟩ := Zd c26; clear c26; replace H := Option.bind_eq_some_iff.mp H; obtain ⟨t492, A270, H⟩ := H; (try dsimp only at H); have A27 := Aside0.mk A270; clear A270
       by_cases c28 : t492 = true
       · as_aux_lemma =>
        subst c28
        rw [if_pos rfl] at H
        have H' := Aside0.mk H; clear H; obtain ⟨Ao29, co29, eo29⟩ := Kd.R_slice HO477.out; subst eo29; obtain ⟨Ao30, co30, eo30⟩ := Kd.R_slice HO481.out; subst eo30
        go_wp2_with (first | (go_at_call 10; (with_reducible refine (laws_kSame.calls k _ _ t475 _ _ t479 true _ ?side1 ?side2 ?side3 ?side4 A24.out).mono ?_); (case side1 => repeat (first | exact (Kd.R_reads' HO477.out).2.2 | (with_reducible refine Kd.C_alloc ?_ _) | (with_reducible refine Kd.C_drewN ?_ _) | (with_reducible refine Kd.C_drew ?_))); (case side2 => exact (Kd.R_reads' HO477.out).2.1); (case side3 => repeat (first | exact (Kd.R_reads' HO481.out).2.2 | (with_reducible refine Kd.C_alloc ?_ _) | (with_reducible refine Kd.C_drewN ?_ _) | (with_reducible refine Kd.C_drew ?_))); (case side4 => exact (Kd.R_reads' HO481.out).2.1); rintro e w' ⟨rfl, ⟨nd, rfl⟩⟩; obtain ⟨Ao31, co31, eo31⟩ := Kd.R_slice HO485.out; subst eo31; obtain ⟨Ao32, co32, eo32⟩ := Kd.R_slice HO489.out; subst eo32) | (go_at_call 10; (with_reducible refine (laws_kSame.calls k _ _ t483 _ _ t487 true _ ?side1 ?side2 ?side3 ?side4 A27.out).mono ?_); (case side1 => repeat (first | exact (Kd.R_reads' HO485.out).2.2 | (with_reducible refine Kd.C_alloc ?_ _) | (with_reducible refine Kd.C_drewN ?_ _) | (with_reducible refine Kd.C_drew ?_))); (case side2 => exact (Kd.R_reads' HO485.out).2.1); (case side3 => repeat (first | exact (Kd.R_reads' HO489.out).2.2 | (with_reducible refine Kd.C_alloc ?_ _) | (with_reducible refine Kd.C_drewN ?_ _) | (with_reducible refine Kd.C_drew ?_))); (case side4 => exact (Kd.R_reads' HO489.out).2.1); rintro e w' ⟨rfl, ⟨nd, rfl⟩⟩))
        go_meet
        case rel => exact ⟨_, ((t486 != t478)), (by first | rfl | (simp; done) | (simp [*]; done)), H', ⟨by first | omega | exact Nat.le_refl _⟩, ⟨Zc HO473⟩, ⟨Zc HO477⟩, ⟨Zc HO485⟩, ⟨Zc HO470⟩, ⟨Zb BK474⟩, ⟨Zl HB⟩⟩
       ·
        replace c28 := Bool.eq_false_iff.mpr c28
        subst c28
        rw [if_neg Bool.false_ne_true] at H
        exact absurd H (by simp)
     ·
      replace c25 := Bool.eq_false_iff.mpr c25
      subst c25
      rw [if_neg Bool.false_ne_true] at H
      exact absurd H (by simp)
   case rest =>
    (repeat (rename World.cell? _ _ = _ => z_; clear z_)); (repeat (rename World.frozen? _ _ = _ => z_; clear z_)); (repeat (rename @Ne Nat _ _ => z_; clear z_))
    revert k A0 c0 l0 A1 c1 l1 r w hu26 HR0 HC0 HR1 HC1 A3 t467 t468 t471 A5 t475 t478 A6 t479 t482 A7 t483 t486 A8 t487 t490 A9 HC10 nd w11 gb474 w12 GW474 GE474 Ao14 co14 Ao15 co15 w16 v476 w18 v480 w20 v484 w22 v488 HO489 HO470 HO473 HO477 HO481 HO485 BK474 HB wc hcut; iterate 377 (rename _ => z_; revert z_)
    exact hq1.out

end Go.Proofs.Ytnagcjhgojchlac.Q
