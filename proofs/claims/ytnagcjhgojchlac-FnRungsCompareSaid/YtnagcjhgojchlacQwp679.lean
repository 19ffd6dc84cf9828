/- Each function below comes to the Lean function beside it (theorems '.calls'); no condition beyond each theorem's own. Written by our program oprint.py over the kit's print. -/
import Derived.Test.YtnagcjhgojchlacQwp605

namespace Go.Proofs.Ytnagcjhgojchlac.Q
open Go.RowKit Go.Proofs.YtnagcjhgojchlacW.PrintWords Go.Proofs.YtnagcjhgojchlacW.PrintLast Go.Proofs.YtnagcjhgojchlacW.PrintMore
attribute [local go_sem] max2_int min2_int max_two min_two max_three min_three max_four min_four   -- for this text's walks alone
set_option linter.unusedVariables false
set_option linter.unusedSimpArgs false

set_option maxHeartbeats 8000000 in
set_option maxRecDepth 100000 in
theorem laws_FnRungsCompare_p679 : laws_FnRungsCompare_p605.Q1 := by
 iterate 1537 (intro _)
 intro k A0 c0 l0 A1 c1 l1 r w hu26 HR0 HC0 HR1 HC1 A3 t467 t468 t471 A5 t475 t478 A6 t479 t482 A7 t483 t486 A8 t487 t490 A9 _ nd w11 gb474 w12 GW474 GE474 Ao14 co14 Ao15 co15 w16 v476 w18 v480 w20 v484 w22 v488 HO489 HO470 HO473 HO477 HO481 HO485 _ _ kj9 HJ9 t493 t494 A34 t495 t496 A35 w38 w40 _ _ _ _ _ _ HO_6 HO_7 HO_11 HO_475001 BK474 _ kj35 HJ35 kj46 HJ46 t520 t521 A109 t525 t527 t528 A111 t529 t530 A112 t531 t532 A113 t533 t536 A114 t537 t540 A115 t541 t542 A116 t543 t544 A117 w119 gb524 w120 GW524 GE524 Ao122 co122 w123 w125 w127 w129 w131 v534 w133 v538 w135 w137 HO523 HO535 HO539 _ _ wc _ _ _ _ kj117 HJ117 _ A110 _ _ wr _ x51_5 x52_5 HO_43 HO_51 HO_525001 BK524 HB k5 _ HK5 c159b0 t549 t553 t555 t556 A164 c165b0 c165b1 ji166 hji166 hji166_ hji166z hji166u hji166v hji166y hji166x c167b0 c167b1 c167b2 A162 t557 A169 c170b0 c170b1 c170b2 A163 H c172
 subst c172
 rw [if_pos rfl] at H
 by_cases c173 : (t521.length : Int) < t553
 ·
  rw [if_pos c173] at H
  exact absurd H (by simp)
 ·
  rw [if_neg c173] at H; have c173b0 : decide ((t521.length : Int) < t553) = false := decide_eq_false c173; clear c173
  by_cases c174 : t542 = true
  ·
   subst c174
   rw [if_pos rfl] at H
   by_cases c175 : t541 < t553
   ·
    rw [if_pos c175] at H
    exact absurd H (by simp)
   ·
    rw [if_neg c175] at H; have c175b0 : decide (t541 < t553) = false := decide_eq_false c175; clear c175
    by_cases c176 : t541 > (t521.length : Int)
    ·
     rw [if_pos c176] at H
     exact absurd H (by simp)
    ·
     rw [if_neg c176] at H; have c176b0 : decide ((t521.length : Int) < t541) = false := decide_eq_false c176; clear c176
     by_cases c177 : t556 = true
     ·
      subst c177
      rw [if_pos rfl] at H
      by_cases c178 : (t555 != true) = true
      ·
       rw [if_pos c178] at H
       exact absurd H (by simp)
      · as_aux_lemma =>
       rw [if_neg c178] at H; obtain ⟨c178b0, c178b1, c178b2⟩ := Zd c178; clear c178; have H' := Aside0.mk H; clear H; have hcz179_0 : wr.cell? ⟨gb524, 0, none⟩ = some (.int .i64 t520) := (blk_cell BK524.out 0).trans rfl; have hcz179_1 : wr.cell? ⟨gb524, 1, none⟩ = some (.slice Ao122 t521.length co122) := (blk_cell BK524.out 1).trans rfl; have hfz179_0 := blk_frozen BK524.out 0; have hfz179_1 := blk_frozen BK524.out 1; obtain ⟨Ao180, co180, eo180⟩ := Kd.R_slice HO_51.out; subst eo180
       go_wp2_with (first | ((with_reducible refine gate_callee (f := 6) rfl ?_); refine Ga (some 363) Try.func6 #[.agg #[.int .i64 t520, .slice Ao122 t521.length co122], .slice Ao180 x51_5.length co180] (h := ?_); (with_reducible refine (impl_SortedBy.calls k5 t520 _ _ t521 _ _ x51_5 t549 true _ ?side1 ?side2 ?side3 ?side4 A162.out).mono ?_); (case side1 => repeat (first | exact (Kd.R_reads' HO_525001.out).2.2 | (with_reducible refine Kd.C_alloc ?_ _) | (with_reducible refine Kd.C_drewN ?_ _) | (with_reducible refine Kd.C_drew ?_))); (case side2 => exact (Kd.R_reads' HO_525001.out).2.1); (case side3 => repeat (first | exact (Kd.R_reads' HO_51.out).2.2 | (with_reducible refine Kd.C_alloc ?_ _) | (with_reducible refine Kd.C_drewN ?_ _) | (with_reducible refine Kd.C_drew ?_))); (case side4 => exact (Kd.R_reads' HO_51.out).2.1); rintro e w181 ⟨v550, rfl, ho0, hb⟩; refine ⟨_, rfl, ?_⟩; have HO551 := Zj (Zv (Zv (Zv ho0 HO_43) HO_51) HO_525001) HB; replace HO_43 := Zm (Kd.R_elder' (Zr HO_43) (Kd.R_base ho0) hb); replace HO_51 := Zm (Kd.R_elder' (Zr HO_51) (Kd.R_base ho0) hb); replace HO_525001 := Zm (Kd.R_elder' (Zr HO_525001) (Kd.R_base ho0) hb); replace BK524 := Zk BK524 hb; replace HB := Zh HB hb; (try clear hb); (try clear ho0); have hcz182_0 : w181.cell? ⟨gb524, 0, none⟩ = some (.int .i64 t520) := (blk_cell BK524.out 0).trans rfl; have hcz182_1 : w181.cell? ⟨gb524, 1, none⟩ = some (.slice Ao122 t521.length co122) := (blk_cell BK524.out 1).trans rfl; have hfz182_0 := blk_frozen BK524.out 0; have hfz182_1 := blk_frozen BK524.out 1) | ((with_reducible refine gate_callee (f := 25) rfl ?_); refine Ga (some 369) Try.func25 #[.int .i64 t520] (h := ?_); (with_reducible refine (impl_LeastSorting.calls t520 t553 true _ A163.out).mono ?_); rintro e w' ⟨rfl, ⟨nd, rfl⟩⟩; refine ⟨_, rfl, ?_⟩) | ((with_reducible refine gate_callee (f := 26) rfl ?_); refine Ga (some 376) Try.func26 #[.agg #[.int .i64 t520, .slice Ao122 t521.length co122], .int .i64 t520] (h := ?_); (with_reducible refine (impl_SortsFirst.calls k5 t520 _ _ t521 t520 t555 true _ ?side1 ?side2 A164.out).mono ?_); (case side1 => repeat (first | exact (Kd.R_reads' HO_525001.out).2.2 | (with_reducible refine Kd.C_alloc ?_ _) | (with_reducible refine Kd.C_drewN ?_ _) | (with_reducible refine Kd.C_drew ?_))); (case side2 => exact (Kd.R_reads' HO_525001.out).2.1); rintro e w183 ⟨rfl, hb⟩; refine ⟨_, rfl, ?_⟩; replace HO_43 := Zo HO_43 hb; replace HO_51 := Zo HO_51 hb; replace HO_525001 := Zo HO_525001 hb; replace HO551 := Zo HO551 hb; replace BK524 := Zk BK524 hb; replace HB := Zh HB hb; (try clear hb); (try clear hb2); (try clear hk); (try clear hi); have hcz184_0 : w183.cell? ⟨gb524, 0, none⟩ = some (.int .i64 t520) := (blk_cell BK524.out 0).trans rfl; have hcz184_1 : w183.cell? ⟨gb524, 1, none⟩ = some (.slice Ao122 t521.length co122) := (blk_cell BK524.out 1).trans rfl; have hfz184_0 := blk_frozen BK524.out 0; have hfz184_1 := blk_frozen BK524.out 1; obtain ⟨Ao185, co185, eo185⟩ := Kd.R_slice HO551.out; subst eo185) | (go_at_call 16; (with_reducible refine (laws_kSorted.calls k5 _ _ t549 t557 _ ?side1 ?side2 A169.out).mono ?_); (case side1 => repeat (first | exact (Kd.R_reads' HO551.out).2.2 | (with_reducible refine Kd.C_alloc ?_ _) | (with_reducible refine Kd.C_drewN ?_ _) | (with_reducible refine Kd.C_drew ?_))); (case side2 => exact (Kd.R_reads' HO551.out).2.1); rintro e w' ⟨rfl, ⟨nd, rfl⟩⟩))
       go_meet
       case rel => exact ⟨_, H', ⟨by have := HJ9.out; have := HJ35.out; have := HJ46.out; have := HJ117.out; have := HK5.out; first | omega | exact Nat.le_refl _⟩, ⟨Zc HO_43⟩, ⟨Zc HO_525001⟩, ⟨Zb BK524⟩, ⟨Zl HB⟩⟩
     ·
      replace c177 := Bool.eq_false_iff.mpr c177
      subst c177
      rw [if_neg Bool.false_ne_true] at H
      exact absurd H (by simp)
  ·
   replace c174 := Bool.eq_false_iff.mpr c174
   subst c174
   rw [if_neg Bool.false_ne_true] at H
   by_cases c186 : t556 = true
   ·
    subst c186
    rw [if_pos rfl] at H
    by_cases c187 : (t555 != true) = true
    ·
     rw [if_pos c187] at H
     exact absurd H (by simp)
    · as_aux_lemma =>
     rw [if_neg c187] at H; obtain ⟨c187b0, c187b1, c187b2⟩ := Zd c187; clear c187; have H' := Aside0.mk H; clear H; have hcz188_0 : wr.cell? ⟨gb524, 0, none⟩ = some (.int .i64 t520) := (blk_cell BK524.out 0).trans rfl; have hcz188_1 : wr.cell? ⟨gb524, 1, none⟩ = some (.slice Ao122 t521.length co122) := (blk_cell BK524.out 1).trans rfl; have hfz188_0 := blk_frozen BK524.out 0; have hfz188_1 := blk_frozen BK524.out 1; obtain ⟨Ao189, co189, eo189⟩ := Kd.R_slice HO_51.out; subst eo189
     go_wp2_with (first | ((with_reducible refine gate_callee (f := 6) rfl ?_); refine Ga (some 363) Try.func6 #[.agg #[.int .i64 t520, .slice Ao122 t521.length co122], .slice Ao189 x51_5.length co189] (h := ?_); (with_reducible refine (impl_SortedBy.calls k5 t520 _ _ t521 _ _ x51_5 t549 true _ ?side1 ?side2 ?side3 ?side4 A162.out).mono ?_); (case side1 => repeat (first | exact (Kd.R_reads' HO_525001.out).2.2 | (with_reducible refine Kd.C_alloc ?_ _) | (with_reducible refine Kd.C_drewN ?_ _) | (with_reducible refine Kd.C_drew ?_))); (case side2 => exact (Kd.R_reads' HO_525001.out).2.1); (case side3 => repeat (first | exact (Kd.R_reads' HO_51.out).2.2 | (with_reducible refine Kd.C_alloc ?_ _) | (with_reducible refine Kd.C_drewN ?_ _) | (with_reducible refine Kd.C_drew ?_))); (case side4 => exact (Kd.R_reads' HO_51.out).2.1); rintro e w190 ⟨v550, rfl, ho0, hb⟩; refine ⟨_, rfl, ?_⟩; have HO551 := Zj (Zv (Zv (Zv ho0 HO_43) HO_51) HO_525001) HB; replace HO_43 := Zm (Kd.R_elder' (Zr HO_43) (Kd.R_base ho0) hb); replace HO_51 := Zm (Kd.R_elder' (Zr HO_51) (Kd.R_base ho0) hb); replace HO_525001 := Zm (Kd.R_elder' (Zr HO_525001) (Kd.R_base ho0) hb); replace BK524 := Zk BK524 hb; replace HB := Zh HB hb; (try clear hb); (try clear ho0); have hcz191_0 : w190.cell? ⟨gb524, 0, none⟩ = some (.int .i64 t520) := (blk_cell BK524.out 0).trans rfl; have hcz191_1 : w190.cell? ⟨gb524, 1, none⟩ = some (.slice Ao122 t521.length co122) := (blk_cell BK524.out 1).trans rfl; have hfz191_0 := blk_frozen BK524.out 0; have hfz191_1 := blk_frozen BK524.out 1) | ((with_reducible refine gate_callee (f := 25) rfl ?_); refine Ga (some 369) Try.func25 #[.int .i64 t520] (h := ?_); (with_reducible refine (impl_LeastSorting.calls t520 t553 true _ A163.out).mono ?_); rintro e w' ⟨rfl, ⟨nd, rfl⟩⟩; refine ⟨_, rfl, ?_⟩) | ((with_reducible refine gate_callee (f := 26) rfl ?_); refine Ga (some 376) Try.func26 #[.agg #[.int .i64 t520, .slice Ao122 t521.length co122], .int .i64 t520] (h := ?_); (with_reducible refine (impl_SortsFirst.calls k5 t520 _ _ t521 t520 t555 true _ ?side1 ?side2 A164.out).mono ?_); (case side1 => repeat (first | exact (Kd.R_reads' HO_525001.out).2.2 | (with_reducible refine Kd.C_alloc ?_ _) | (with_reducible refine Kd.C_drewN ?_ _) | (with_reducible refine Kd.C_drew ?_))); (case side2 => exact (Kd.R_reads' HO_525001.out).2.1); rintro e w192 ⟨rfl, hb⟩; refine ⟨_, rfl, ?_⟩; replace HO_43 := Zo HO_43 hb; replace HO_51 := Zo HO_51 hb; replace HO_525001 := Zo HO_525001 hb; replace HO551 := Zo HO551 hb; replace BK524 := Zk BK524 hb; replace HB := Zh HB hb; (try clear hb); (try clear hb2); (try clear hk); (try clear hi); have hcz193_0 : w192.cell? ⟨gb524, 0, none⟩ = some (.int .i64 t520) := (blk_cell BK524.out 0).trans rfl; have hcz193_1 : w192.cell? ⟨gb524, 1, none⟩ = some (.slice Ao122 t521.length co122) := (blk_cell BK524.out 1).trans rfl; have hfz193_0 := blk_frozen BK524.out 0; have hfz193_1 := blk_frozen BK524.out 1; obtain ⟨Ao194, co194, eo194⟩ := Kd.R_slice HO551.out; subst eo194) | (go_at_call 16; (with_reducible refine (laws_kSorted.calls k5 _ _ t549 t557 _ ?side1 ?side2 A169.out).mono ?_); (case side1 => repeat (first | exact (Kd.R_reads' HO551.out).2.2 | (with_reducible refine Kd.C_alloc ?_ _) | (with_reducible refine Kd.C_drewN ?_ _) | (with_reducible refine Kd.C_drew ?_))); (case side2 => exact (Kd.R_reads' HO551.out).2.1); rintro e w' ⟨rfl, ⟨nd, rfl⟩⟩))
     go_meet
     case rel => exact ⟨_, H', ⟨by have := HJ9.out; have := HJ35.out; have := HJ46.out; have := HJ117.out; have := HK5.out; first | omega | exact Nat.le_refl _⟩, ⟨Zc HO_43⟩, ⟨Zc HO_525001⟩, ⟨Zb BK524⟩, ⟨Zl HB⟩⟩
   ·
    replace c186 := Bool.eq_false_iff.mpr c186
    subst c186
    rw [if_neg Bool.false_ne_true] at H
    exact absurd H (by simp)

end Go.Proofs.Ytnagcjhgojchlac.Q
