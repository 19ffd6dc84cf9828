/- Each function below comes to the Lean function beside it (theorems '.calls'); no condition beyond each theorem's own. Written by our program oprint.py over the kit's print. -/
import Derived.Test.YtnagcjhgojchlacQwp0

namespace Go.Proofs.Ytnagcjhgojchlac.Q
open Go.RowKit Go.Proofs.YtnagcjhgojchlacW.PrintWords Go.Proofs.YtnagcjhgojchlacW.PrintLast Go.Proofs.YtnagcjhgojchlacW.PrintMore
attribute [local go_sem] max2_int min2_int max_two min_two max_three min_three max_four min_four   -- for this text's walks alone
set_option linter.unusedVariables false
set_option linter.unusedSimpArgs false

set_option maxHeartbeats 8000000 in
set_option maxRecDepth 100000 in
def laws_FnRungsCompare_p92 : Part2 (laws_FnRungsCompare_p0.Q1) := by
 refine Part2.mk ?Q1 ?Q2 (fun hq1 hq2 => ?main)
 case main =>
  iterate 377 (intro _)
  intro k A0 c0 l0 A1 c1 l1 r w hu26 HR0 HC0 HR1 HC1 A3 t467 t468 t471 A5 t475 t478 A6 t479 t482 A7 t483 t486 A8 t487 t490 A9 HC10 _ nd w11 gb474 w12 GW474 GE474 Ao14 co14 Ao15 co15 w16 v476 w18 v480 w20 v484 w22 v488 HO489 HO470 HO473 HO477 HO481 HO485 BK474 HB _ _ wc hcut
  (clear HC10; (try clear c1); ); obtain ⟨kq, x117_9, rfl, HA, HJ9, HO_6, HO_7, HO_11, HO_475001, BK474, HB⟩ := hcut
  cases kq with
  | zero => exact absurd HA.out (by simp [laws_FnRungsCompare.j0])
  | succ kj9 =>
   have H := HA.out; clear HA
   simp only [laws_FnRungsCompare.j0] at H
   by_cases c33 : x117_9 = true
   ·
    subst c33
    rw [if_pos rfl] at H
    exact absurd H (by simp)
   ·
    replace c33 := Bool.eq_false_iff.mpr c33
    subst c33
    rw [if_neg Bool.false_ne_true] at H
    replace H := Option.bind_eq_some_iff.mp H; obtain ⟨⟨t493, t494⟩, A340, H⟩ := H; (try dsimp only at H); have A34 := Aside0.mk A340; clear A340; replace H := Option.bind_eq_some_iff.mp H; obtain ⟨⟨t495, t496⟩, A350, H⟩ := H; (try dsimp only at H); have A35 := Aside0.mk A350; clear A350; have HC36 := Aside0.mk H; clear H; have hcz37_0 : wc.cell? ⟨gb474, 0, none⟩ = some (.int .i64 t467) := (blk_cell BK474.out 0).trans rfl; have hcz37_1 : wc.cell? ⟨gb474, 1, none⟩ = some (.slice Ao14 t468.length co14) := (blk_cell BK474.out 1).trans rfl; have hfz37_0 := blk_frozen BK474.out 0; have hfz37_1 := blk_frozen BK474.out 1
    go_upto_region 12 with (first | ((with_reducible refine gate_callee (f := 11) rfl ?_); refine Ga (some 120) Try.func11 #[.agg #[.int .i64 t467, .slice Ao14 t468.length co14]] (h := ?_); (with_reducible refine (impl_IsSorting.calls kj9 t467 _ _ t468 t493 t494 _ ?side1 ?side2 A34.out).mono ?_); (case side1 => repeat (first | exact (Kd.R_reads' HO_475001.out).2.2 | (with_reducible refine Kd.C_alloc ?_ _) | (with_reducible refine Kd.C_drewN ?_ _) | (with_reducible refine Kd.C_drew ?_))); (case side2 => exact (Kd.R_reads' HO_475001.out).2.1); rintro e w38 ⟨rfl, hb⟩; refine ⟨_, rfl, ?_⟩; replace HO_6 := Zo HO_6 hb; replace HO_7 := Zo HO_7 hb; replace HO_11 := Zo HO_11 hb; replace HO_475001 := Zo HO_475001 hb; replace BK474 := Zk BK474 hb; replace HB := Zh HB hb; (try clear hb); (try clear hb2); (try clear hk); (try clear hi); have hcz39_0 : w38.cell? ⟨gb474, 0, none⟩ = some (.int .i64 t467) := (blk_cell BK474.out 0).trans rfl; have hcz39_1 : w38.cell? ⟨gb474, 1, none⟩ = some (.slice Ao14 t468.length co14) := (blk_cell BK474.out 1).trans rfl; have hfz39_0 := blk_frozen BK474.out 0; have hfz39_1 := blk_frozen BK474.out 1) | ((with_reducible refine gate_callee (f := 12) rfl ?_); refine Ga (some 125) Try.func12 #[.agg #[.int .i64 t467, .slice Ao14 t468.length co14]] (h := ?_); (with_reducible refine (spec_IsSorting.calls kj9 t467 _ _ t468 t495 t496 _ ?side1 ?side2 A35.out).mono ?_); (case side1 => repeat (first | exact (Kd.R_reads' HO_475001.out).2.2 | (with_reducible refine Kd.C_alloc ?_ _) | (with_reducible refine Kd.C_drewN ?_ _) | (with_reducible refine Kd.C_drew ?_))); (case side2 => exact (Kd.R_reads' HO_475001.out).2.1); rintro e w40 ⟨rfl, hb⟩; refine ⟨_, rfl, ?_⟩; replace HO_6 := Zo HO_6 hb; replace HO_7 := Zo HO_7 hb; replace HO_11 := Zo HO_11 hb; replace HO_475001 := Zo HO_475001 hb; replace BK474 := Zk BK474 hb; replace HB := Zh HB hb; (try clear hb); (try clear hb2); (try clear hk); (try clear hi)))
    (try simp only [Act.put, List.setIfInBounds_toArray, List.set_cons_zero, List.set_cons_succ])
    go_cut [141] (fun v141 wc => ∃ (kq : Nat) (x141_35 : Bool), v141 = .bool x141_35 ∧ Aside0 (laws_FnRungsCompare.j1 kq l1 t471 t475 t478 t483 t493 x141_35 t467 t468 = some r) ∧ Aside0 (kq ≤ kj9) ∧ Aside0 (Kd.R (Kd.int .i64) 3 wc w.heap.size (fun k_ => Zn k_ v476 ∧ Zn k_ v484 ∧ Zn k_ (.slice Ao14 t468.length co14)) (.slice Ao15 t471.length co15) t471) ∧ Aside0 (Kd.R (Kd.int .i64) 3 wc w.heap.size (fun k_ => Zn k_ (.slice Ao15 t471.length co15) ∧ Zn k_ v484 ∧ Zn k_ (.slice Ao14 t468.length co14)) v476 t475) ∧ Aside0 (Kd.R (Kd.int .i64) 3 wc w.heap.size (fun k_ => Zn k_ (.slice Ao15 t471.length co15) ∧ Zn k_ v476 ∧ Zn k_ (.slice Ao14 t468.length co14)) v484 t483) ∧ Aside0 (Kd.R (Kd.int .i64) 3 wc w.heap.size (fun k_ => Zn k_ (.slice Ao15 t471.length co15) ∧ Zn k_ v476 ∧ Zn k_ v484) (.slice Ao14 t468.length co14) t468) ∧ Aside0 (wc.heap[gb474]? = some (.cells #[.int .i64 t467, (.slice Ao14 t468.length co14)] 26 (0, 0))) ∧ Aside0 (Below w.heap.size w wc))
    case first => as_aux_lemma =>
     (repeat (rename World.cell? _ _ = _ => z_; clear z_)); (repeat (rename World.frozen? _ _ = _ => z_; clear z_))
     have H := HC36.out; clear HC36
     by_cases c41 : (t494 != t496) = true
     ·
      rw [if_pos c41] at H
      exact absurd H (by simp)
     ·
      rw [if_neg c41] at H; obtain ⟨c41b0, c41b1, c41b2⟩ := Zd c41; clear c41
      (first | rw [c41b0] | (simp only [i64_w, i32_w]; rw [c41b0]) | skip)
      by_cases c42 : (t493 != t495) = true
      ·
       rw [if_pos c42] at H
       exact absurd H (by simp)
      · as_aux_lemma =>
       rw [if_neg c42] at H; obtain ⟨c42b0, c42b1, c42b2⟩ := Zd c42; clear c42; replace H := Option.bind_eq_some_iff.mp H; obtain ⟨t497, A430, H⟩ := H; (try dsimp only at H); have A43 := Aside0.mk A430; clear A430; have H' := Aside0.mk H; clear H; have hcz44_0 : w40.cell? ⟨gb474, 0, none⟩ = some (.int .i64 t467) := (blk_cell BK474.out 0).trans rfl; have hcz44_1 : w40.cell? ⟨gb474, 1, none⟩ = some (.slice Ao14 t468.length co14) := (blk_cell BK474.out 1).trans rfl; have hfz44_0 := blk_frozen BK474.out 0; have hfz44_1 := blk_frozen BK474.out 1
       go_wp2_with (first | (go_at_call 13; (with_reducible refine (impl_IsLadder.calls t467 _ _ t468 t497 _ ?side1 ?side2 A43.out).mono ?_); (case side1 => repeat (first | exact (Kd.R_reads' HO_475001.out).2.2 | (with_reducible refine Kd.C_alloc ?_ _) | (with_reducible refine Kd.C_drewN ?_ _) | (with_reducible refine Kd.C_drew ?_))); (case side2 => exact (Kd.R_reads' HO_475001.out).2.1); rintro e w45 ⟨rfl, hb⟩; replace HO_6 := Zo HO_6 hb; replace HO_7 := Zo HO_7 hb; replace HO_11 := Zo HO_11 hb; replace HO_475001 := Zo HO_475001 hb; replace BK474 := Zk BK474 hb; replace HB := Zh HB hb; (try clear hb); (try clear hb2); (try clear hk); (try clear hi)))
       go_meet
       case rel => exact ⟨_, ((t494 != t497)), (by first | rfl | (simp; done) | (simp [*]; done)), H', ⟨by have := HJ9.out; first | omega | exact Nat.le_refl _⟩, ⟨Zr HO_6⟩, ⟨Zr HO_7⟩, ⟨Zr HO_11⟩, ⟨Zr HO_475001⟩, ⟨Zb BK474⟩, ⟨Zl HB⟩⟩
    case rest =>
     (repeat (rename World.cell? _ _ = _ => z_; clear z_)); (repeat (rename World.frozen? _ _ = _ => z_; clear z_)); (repeat (rename @Ne Nat _ _ => z_; clear z_))
     (clear HC36; (try clear c1); (try clear c2); (try clear p2); (try clear c3); (try clear c4); (try clear c5); (try clear c6); (try clear c7); (try clear c8); (try clear c9); (try clear c11); (try clear c12); (try clear c23); (try clear c23b0); (try clear c23b1); (try clear c23b2); (try clear c25); (try clear c26); (try clear c26b0); (try clear c26b1); (try clear c26b2); (try clear c28); (try clear c33); (try clear c41); (try clear c41b0); (try clear c41b1); (try clear c41b2); (try clear c42); (try clear c42b0); (try clear c42b1); (try clear c42b2); (try clear hcz13_0); (try clear hcz13_1); (try clear hcz17_0); (try clear hcz17_1); (try clear hcz19_0); (try clear hcz19_1); (try clear hcz21_0); (try clear hcz21_1); (try clear hcz37_0); (try clear hcz37_1); (try clear hcz39_0); (try clear hcz39_1); (try clear hcz44_0); (try clear hcz44_1); (try clear hfz13_0); (try clear hfz13_1); (try clear hfz17_0); (try clear hfz17_1); (try clear hfz19_0); (try clear hfz19_1); (try clear hfz21_0); (try clear hfz21_1); (try clear hfz37_0); (try clear hfz37_1); (try clear hfz39_0); (try clear hfz39_1); (try clear hfz44_0); (try clear hfz44_1); (try clear p2)); obtain ⟨kq, x141_35, rfl, HA, HJ35, HO_6, HO_7, HO_11, HO_475001, BK474, HB⟩ := hcut
     cases kq with
     | zero => exact absurd HA.out (by simp [laws_FnRungsCompare.j1])
     | succ kj35 =>
      have H := HA.out; clear HA
      simp only [laws_FnRungsCompare.j1] at H
      by_cases c46 : x141_35 = true
      ·
       subst c46
       rw [if_pos rfl] at H
       exact absurd H (by simp)
      ·
       replace c46 := Bool.eq_false_iff.mpr c46
       subst c46
       rw [if_neg Bool.false_ne_true] at H
       have HC47 := Aside0.mk H; clear H
       go_upto_if 142 with (fail)
       go_cut [] (fun wc => ∃ (kq : Nat), Aside0 (laws_FnRungsCompare.j7 kq l1 = some r) ∧ Aside0 (kq ≤ kj35) ∧ Aside0 (Below w.heap.size w wc))
       case first =>
        (repeat (rename World.cell? _ _ = _ => z_; clear z_)); (repeat (rename World.frozen? _ _ = _ => z_; clear z_))
        revert k A0 c0 l0 A1 c1 l1 r w hu26 HR0 HC0 HR1 HC1 A3 t467 t468 t471 A5 t475 t478 A6 t479 t482 A7 t483 t486 A8 t487 t490 A9 nd w11 gb474 w12 GW474 GE474 Ao14 co14 Ao15 co15 w16 v476 w18 v480 w20 v484 w22 v488 HO489 HO470 HO473 HO477 HO481 HO485 kj9 HJ9 t493 t494 A34 t495 t496 A35 w38 w40 wc HO_6 HO_7 HO_11 HO_475001 BK474 HB kj35 HJ35 HC47; iterate 752 (rename _ => z_; revert z_)
        exact hq1.out
       case rest =>
        (repeat (rename World.cell? _ _ = _ => z_; clear z_)); (repeat (rename World.frozen? _ _ = _ => z_; clear z_)); (repeat (rename @Ne Nat _ _ => z_; clear z_))
        clear HC47; (try clear c1); (try clear c2); (try clear p2); (try clear c3); (try clear c4); (try clear c5); (try clear p5); (try clear q5); (try clear hx5); (try clear c6); (try clear p6); (try clear c7); (try clear c8); (try clear c9); (try clear c10); (try clear c11); (try clear c12); (try clear c14); (try clear c15); (try clear c17); (try clear c23); (try clear c23b0); (try clear c23b1); (try clear c23b2); (try clear c25); (try clear c26); (try clear c26b0); (try clear c26b1); (try clear c26b2); (try clear c28); (try clear c33); (try clear c41); (try clear c41b0); (try clear c41b1); (try clear c41b2); (try clear c42); (try clear c42b0); (try clear c42b1); (try clear c42b2); (try clear c46); (try clear c48); (try clear p51); (try clear q51); (try clear hx51); (try clear c58); (try clear c62); (try clear c62b0); (try clear c62b1); (try clear c62b2); (try clear c63); (try clear p64); (try clear c65); (try clear c66); (try clear c67); (try clear c68); (try clear c70); (try clear c73); (try clear c77); (try clear c78); (try clear c79); (try clear c81); (try clear c84); (try clear c88); (try clear c90); (try clear c90b0); (try clear c91); (try clear c91b0); (try clear c92); (try clear c92b0); (try clear c94); (try clear c96); (try clear c96b0); (try clear c97); (try clear c97b0); (try clear c98); (try clear c98b0); (try clear c99); (try clear c99b0); (try clear c100); (try clear c100b0); (try clear c101); (try clear c101b0); (try clear c102); (try clear c102b0); (try clear c102b1); (try clear c104); (try clear c104b0); (try clear c105); (try clear c105b0); (try clear c106); (try clear c106b0); (try clear c107); (try clear c107b0); (try clear c107b1); (try clear c108); (try clear c108b0); (try clear c108b1); (try clear hcz13_0); (try clear hcz13_1); (try clear hcz17_0); (try clear hcz17_1); (try clear hcz19_0); (try clear hcz19_1); (try clear hcz21_0); (try clear hcz21_1); (try clear hcz37_0); (try clear hcz37_1); (try clear hcz39_0); (try clear hcz39_1); (try clear hcz44_0); (try clear hcz44_1); (try clear hcz53_0); (try clear hcz53_1); (try clear hcz55_0); (try clear hcz55_1); (try clear hcz59_0); (try clear hcz59_1); (try clear hcz74_0); (try clear hcz74_1); (try clear hcz76_0); (try clear hcz76_1); (try clear hcz85_0); (try clear hcz85_1); (try clear hcz87_0); (try clear hcz87_1); (try clear hfz13_0); (try clear hfz13_1); (try clear hfz17_0); (try clear hfz17_1); (try clear hfz19_0); (try clear hfz19_1); (try clear hfz21_0); (try clear hfz21_1); (try clear hfz37_0); (try clear hfz37_1); (try clear hfz39_0); (try clear hfz39_1); (try clear hfz44_0); (try clear hfz44_1); (try clear hfz53_0); (try clear hfz53_1); (try clear hfz55_0); (try clear hfz55_1); (try clear hfz59_0); (try clear hfz59_1); (try clear hfz74_0); (try clear hfz74_1); (try clear hfz76_0); (try clear hfz76_1); (try clear hfz85_0); (try clear hfz85_1); (try clear hfz87_0); (try clear hfz87_1); (try clear hx515_0); (try clear hx517_0); (try clear hx518_0); (try clear hx519_0); (try clear p2); (try clear p5); (try clear p51); (try clear p515); (try clear p517); (try clear p518); (try clear p519); (try clear p6); (try clear p64); (try clear q5); (try clear q51); (try clear q515); (try clear q517); (try clear q518); (try clear q519)
        revert k A0 c0 l0 A1 c1 l1 r w hu26 HR0 HC0 HR1 HC1 A3 t467 t468 t471 A5 t475 t478 A6 t479 t482 A7 t483 t486 A8 t487 t490 A9 nd w11 gb474 w12 GW474 GE474 Ao14 co14 Ao15 co15 w16 v476 w18 v480 w20 v484 w22 v488 HO489 HO470 HO473 HO477 HO481 HO485 kj9 HJ9 t493 t494 A34 t495 t496 A35 w38 w40 HO_6 HO_7 HO_11 HO_475001 BK474 HB kj35 HJ35 wc hcut; iterate 1148 (rename _ => z_; revert z_)
        exact hq2.out

end Go.Proofs.Ytnagcjhgojchlac.Q
