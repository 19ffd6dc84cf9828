/- Each function below comes to the Lean function beside it (theorems '.calls'); no condition beyond each theorem's own. Written by our program oprint.py over the kit's print. -/
import Derived.Test.YtnagcjhgojchlacQwp152

namespace Go.Proofs.Ytnagcjhgojchlac.Q
open Go.RowKit Go.Proofs.YtnagcjhgojchlacW.PrintWords Go.Proofs.YtnagcjhgojchlacW.PrintLast Go.Proofs.YtnagcjhgojchlacW.PrintMore
attribute [local go_sem] max2_int min2_int max_two min_two max_three min_three max_four min_four   -- for this text's walks alone
set_option linter.unusedVariables false
set_option linter.unusedSimpArgs false

set_option maxHeartbeats 8000000 in
set_option maxRecDepth 100000 in
theorem laws_FnRungsCompare_p163 : laws_FnRungsCompare_p152.Q1 := by
 iterate 757 (intro _)
 intro k A0 c0 l0 A1 c1 l1 r w hu26 HR0 HC0 HR1 HC1 A3 t467 t468 t471 A5 t475 t479 t482 A7 t483 t486 A8 t487 t490 A9 _ nd w11 gb474 w12 GW474 GE474 Ao14 co14 Ao15 co15 w16 v476 w18 v480 w20 v484 w22 v488 HO489 HO470 HO473 HO477 HO481 HO485 _ _ kj9 HJ9 t493 t494 A34 t495 t496 A35 w38 w40 _ _ _ _ _ _ wc kj35 HJ35 _ A6 _ t498 t501 A49 t502 t503 t506 A50 t508 t511 A51 HC52 w54 v499 w56 gb507 w57 GW507 GE507 NB474_507 NB507_474 hnb58 hnc58 Ao60 co60 w61 v509 HO510 HO_6 HO_7 HO_11 HO_475001 HO500 HO505 BK474 BK507 HB _ _ _
 have H := HC52.out; clear HC52
 by_cases c62 : (t475.length : Int) = (t471.length : Int)
 ·
  rw [if_pos c62] at H; have c62b0 : ((t475.length : Int) == (t471.length : Int)) = true := beq_iff_eq.mpr c62; have c62b1 : ((t475.length : Int) != (t471.length : Int)) = false := bne_eq_false_iff_eq.mpr c62; (have c62b2 : (t475.length == t471.length) = true := by first | simpa using c62 | (simp at c62 ⊢; omega)); clear c62
  (first | rw [c62b0] | (simp only [i64_w, i32_w]; rw [c62b0]) | skip)
  by_cases c63 : t493 = true
  ·
   subst c63
   rw [if_pos rfl] at H
   replace H := Option.bind_eq_some_iff.mp H; obtain ⟨t512, A640, H⟩ := H; (try dsimp only at H); have A64 := Aside0.mk A640; clear A640
   by_cases c65 : t512 = true
   ·
    subst c65
    rw [if_pos rfl] at H
    by_cases c66 : t501 = true
    ·
     subst c66
     rw [if_pos rfl] at H
     by_cases c67 : t506 = true
     ·
      subst c67
      rw [if_pos rfl] at H
      by_cases c68 : t511 = true
      ·
       subst c68
       rw [if_pos rfl] at H
       replace H := Option.bind_eq_some_iff.mp H; obtain ⟨t513, A690, H⟩ := H; (try dsimp only at H); have A69 := Aside0.mk A690; clear A690
       by_cases c70 : t513 = true
       · as_aux_lemma =>
        subst c70
        rw [if_pos rfl] at H
        have H' := Aside0.mk H; clear H; obtain ⟨Ao71, co71, eo71⟩ := Kd.R_slice HO_7.out; subst eo71
        go_wp2_with (first | (go_at_call 16; (with_reducible refine (laws_kSorted.calls kj35 _ _ t475 true _ ?side1 ?side2 A64.out).mono ?_); (case side1 => repeat (first | exact (Kd.R_reads' HO_7.out).2.2 | (with_reducible refine Kd.C_alloc ?_ _) | (with_reducible refine Kd.C_drewN ?_ _) | (with_reducible refine Kd.C_drew ?_))); (case side2 => exact (Kd.R_reads' HO_7.out).2.1); rintro e w' ⟨rfl, ⟨nd, rfl⟩⟩; obtain ⟨Ao72, co72, eo72⟩ := Kd.R_slice HO510.out; subst eo72) | (go_at_call 10; (with_reducible refine (laws_kSame.calls kj35 _ _ t508 _ _ t475 true _ ?side1 ?side2 ?side3 ?side4 A69.out).mono ?_); (case side1 => repeat (first | exact (Kd.R_reads' HO510.out).2.2 | (with_reducible refine Kd.C_alloc ?_ _) | (with_reducible refine Kd.C_drewN ?_ _) | (with_reducible refine Kd.C_drew ?_))); (case side2 => exact (Kd.R_reads' HO510.out).2.1); (case side3 => repeat (first | exact (Kd.R_reads' HO_7.out).2.2 | (with_reducible refine Kd.C_alloc ?_ _) | (with_reducible refine Kd.C_drewN ?_ _) | (with_reducible refine Kd.C_drew ?_))); (case side4 => exact (Kd.R_reads' HO_7.out).2.1); rintro e w' ⟨rfl, ⟨nd, rfl⟩⟩; have hnb73 := NB507_474.out; have hnc73 := NB474_507.out; have hcz74_0 : w61.cell? ⟨gb507, 0, none⟩ = some (.int .i64 t502) := (blk_cell BK507.out 0).trans rfl; have hcz74_1 : w61.cell? ⟨gb507, 1, none⟩ = some (.slice Ao60 t503.length co60) := (blk_cell BK507.out 1).trans rfl; have hfz74_0 := blk_frozen BK507.out 0; have hfz74_1 := blk_frozen BK507.out 1; obtain ⟨Ao75, co75, eo75⟩ := Kd.R_slice HO500.out; subst eo75; have hcz76_0 : w61.cell? ⟨gb474, 0, none⟩ = some (.int .i64 t467) := (blk_cell BK474.out 0).trans rfl; have hcz76_1 : w61.cell? ⟨gb474, 1, none⟩ = some (.slice Ao14 t468.length co14) := (blk_cell BK474.out 1).trans rfl; have hfz76_0 := blk_frozen BK474.out 0; have hfz76_1 := blk_frozen BK474.out 1))
        go_meet
        case rel => exact ⟨_, (((wrap64 ((t503.length : Int) + (t498.length : Int))) != (t468.length : Int))), (by first | rfl | (simp; done) | (simp [*]; done)), H', ⟨by have := HJ9.out; have := HJ35.out; first | omega | exact Nat.le_refl _⟩, ⟨Zc HO_6⟩, ⟨Zc HO_7⟩, ⟨Zc HO_11⟩, ⟨Zc HO500⟩, ⟨Zl HB⟩⟩
       ·
        replace c70 := Bool.eq_false_iff.mpr c70
        subst c70
        rw [if_neg Bool.false_ne_true] at H
        exact absurd H (by simp)
      ·
       replace c68 := Bool.eq_false_iff.mpr c68
       subst c68
       rw [if_neg Bool.false_ne_true] at H
       exact absurd H (by simp)
     ·
      replace c67 := Bool.eq_false_iff.mpr c67
      subst c67
      rw [if_neg Bool.false_ne_true] at H
      exact absurd H (by simp)
    ·
     replace c66 := Bool.eq_false_iff.mpr c66
     subst c66
     rw [if_neg Bool.false_ne_true] at H
     exact absurd H (by simp)
   ·
    replace c65 := Bool.eq_false_iff.mpr c65
    subst c65
    rw [if_neg Bool.false_ne_true] at H
    exact absurd H (by simp)
  ·
   replace c63 := Bool.eq_false_iff.mpr c63
   subst c63
   rw [if_neg Bool.false_ne_true] at H
   by_cases c77 : t501 = true
   ·
    subst c77
    rw [if_pos rfl] at H
    by_cases c78 : t506 = true
    ·
     subst c78
     rw [if_pos rfl] at H
     by_cases c79 : t511 = true
     ·
      subst c79
      rw [if_pos rfl] at H
      replace H := Option.bind_eq_some_iff.mp H; obtain ⟨t514, A800, H⟩ := H; (try dsimp only at H); have A80 := Aside0.mk A800; clear A800
      by_cases c81 : t514 = true
      · as_aux_lemma =>
       subst c81
       rw [if_pos rfl] at H
       have H' := Aside0.mk H; clear H; obtain ⟨Ao82, co82, eo82⟩ := Kd.R_slice HO_7.out; subst eo82; obtain ⟨Ao83, co83, eo83⟩ := Kd.R_slice HO510.out; subst eo83
       go_wp2_with (first | (go_at_call 10; (with_reducible refine (laws_kSame.calls kj35 _ _ t508 _ _ t475 true _ ?side1 ?side2 ?side3 ?side4 A80.out).mono ?_); (case side1 => repeat (first | exact (Kd.R_reads' HO510.out).2.2 | (with_reducible refine Kd.C_alloc ?_ _) | (with_reducible refine Kd.C_drewN ?_ _) | (with_reducible refine Kd.C_drew ?_))); (case side2 => exact (Kd.R_reads' HO510.out).2.1); (case side3 => repeat (first | exact (Kd.R_reads' HO_7.out).2.2 | (with_reducible refine Kd.C_alloc ?_ _) | (with_reducible refine Kd.C_drewN ?_ _) | (with_reducible refine Kd.C_drew ?_))); (case side4 => exact (Kd.R_reads' HO_7.out).2.1); rintro e w' ⟨rfl, ⟨nd, rfl⟩⟩; have hnb84 := NB507_474.out; have hnc84 := NB474_507.out; have hcz85_0 : w61.cell? ⟨gb507, 0, none⟩ = some (.int .i64 t502) := (blk_cell BK507.out 0).trans rfl; have hcz85_1 : w61.cell? ⟨gb507, 1, none⟩ = some (.slice Ao60 t503.length co60) := (blk_cell BK507.out 1).trans rfl; have hfz85_0 := blk_frozen BK507.out 0; have hfz85_1 := blk_frozen BK507.out 1; obtain ⟨Ao86, co86, eo86⟩ := Kd.R_slice HO500.out; subst eo86; have hcz87_0 : w61.cell? ⟨gb474, 0, none⟩ = some (.int .i64 t467) := (blk_cell BK474.out 0).trans rfl; have hcz87_1 : w61.cell? ⟨gb474, 1, none⟩ = some (.slice Ao14 t468.length co14) := (blk_cell BK474.out 1).trans rfl; have hfz87_0 := blk_frozen BK474.out 0; have hfz87_1 := blk_frozen BK474.out 1))
       go_meet
       case rel => exact ⟨_, (((wrap64 ((t503.length : Int) + (t498.length : Int))) != (t468.length : Int))), (by first | rfl | (simp; done) | (simp [*]; done)), H', ⟨by have := HJ9.out; have := HJ35.out; first | omega | exact Nat.le_refl _⟩, ⟨Zc HO_6⟩, ⟨Zc HO_7⟩, ⟨Zc HO_11⟩, ⟨Zc HO500⟩, ⟨Zl HB⟩⟩
      ·
       replace c81 := Bool.eq_false_iff.mpr c81
       subst c81
       rw [if_neg Bool.false_ne_true] at H
       exact absurd H (by simp)
     ·
      replace c79 := Bool.eq_false_iff.mpr c79
      subst c79
      rw [if_neg Bool.false_ne_true] at H
      exact absurd H (by simp)
    ·
     replace c78 := Bool.eq_false_iff.mpr c78
     subst c78
     rw [if_neg Bool.false_ne_true] at H
     exact absurd H (by simp)
   ·
    replace c77 := Bool.eq_false_iff.mpr c77
    subst c77
    rw [if_neg Bool.false_ne_true] at H
    exact absurd H (by simp)
 ·
  rw [if_neg c62] at H
  exact absurd H (by simp)

end Go.Proofs.Ytnagcjhgojchlac.Q
