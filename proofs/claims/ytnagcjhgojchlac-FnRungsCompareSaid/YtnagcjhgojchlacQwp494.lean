/- Each function below comes to the Lean function beside it (theorems '.calls'); no condition beyond each theorem's own. Written by our program oprint.py over the kit's print. -/
import Derived.Test.YtnagcjhgojchlacQwp481

namespace Go.Proofs.Ytnagcjhgojchlac.Q
open Go.RowKit Go.Proofs.YtnagcjhgojchlacW.PrintWords Go.Proofs.YtnagcjhgojchlacW.PrintLast Go.Proofs.YtnagcjhgojchlacW.PrintMore
attribute [local go_sem] max2_int min2_int max_two min_two max_three min_three max_four min_four   -- for this text's walks alone
set_option linter.unusedVariables false
set_option linter.unusedSimpArgs false

set_option maxHeartbeats 8000000 in
set_option maxRecDepth 100000 in
theorem laws_FnRungsCompare_p494 : laws_FnRungsCompare_p481.Q1 := by
 iterate 1152 (intro _)
 intro k A0 c0 l0 A1 c1 l1 r w hu26 HR0 HC0 HR1 HC1 A3 t467 t468 t471 A5 t475 t478 A6 t479 t482 A7 t483 t486 A8 t487 t490 A9 _ nd w11 gb474 w12 GW474 GE474 Ao14 co14 Ao15 co15 w16 v476 w18 v480 w20 v484 w22 v488 HO489 HO470 HO473 HO477 HO481 HO485 _ _ kj9 HJ9 t493 t494 A34 t495 t496 A35 w38 w40 _ _ _ _ _ _ HO_6 HO_7 HO_11 HO_475001 BK474 _ kj35 HJ35 wc kj46 HJ46 t520 t521 A109 t525 t526 A110 t527 t528 A111 t529 t530 A112 t531 t532 A113 t533 t536 A114 t537 t540 A115 t541 t542 A116 t543 t544 A117 HC118 w119 gb524 w120 GW524 GE524 Ao122 co122 w123 w125 w127 w129 w131 v534 w133 v538 w135 w137 HO523 HO535 HO539 BK524 HB _ _ _
 have H := HC118.out; clear HC118
 by_cases c138 : (t526 != t528) = true
 ·
  rw [if_pos c138] at H
  exact absurd H (by simp)
 ·
  rw [if_neg c138] at H; obtain ⟨c138b0, c138b1, c138b2⟩ := Zd c138; clear c138
  (first | rw [c138b0] | (simp only [i64_w, i32_w]; rw [c138b0]) | skip)
  by_cases c139 : (t525 != t527) = true
  ·
   rw [if_pos c139] at H
   exact absurd H (by simp)
  ·
   rw [if_neg c139] at H; obtain ⟨c139b0, c139b1, c139b2⟩ := Zd c139; clear c139
   by_cases c140 : (t530 != t532) = true
   ·
    rw [if_pos c140] at H
    exact absurd H (by simp)
   ·
    rw [if_neg c140] at H; obtain ⟨c140b0, c140b1, c140b2⟩ := Zd c140; clear c140
    by_cases c141 : t529 = t531
    ·
     rw [if_pos c141] at H; have c141b0 : (t529 == t531) = true := beq_iff_eq.mpr c141; have c141b1 : (t529 != t531) = false := bne_eq_false_iff_eq.mpr c141; clear c141
     by_cases c142 : (t536 != t540) = true
     ·
      rw [if_pos c142] at H
      exact absurd H (by simp)
     ·
      rw [if_neg c142] at H; obtain ⟨c142b0, c142b1, c142b2⟩ := Zd c142; clear c142; replace H := Option.bind_eq_some_iff.mp H; obtain ⟨t545, A1430, H⟩ := H; (try dsimp only at H); have A143 := Aside0.mk A1430; clear A1430
      by_cases c144 : t545 = true
      ·
       subst c144
       rw [if_pos rfl] at H
       by_cases c145 : (t542 != t544) = true
       ·
        rw [if_pos c145] at H
        exact absurd H (by simp)
       ·
        rw [if_neg c145] at H; obtain ⟨c145b0, c145b1, c145b2⟩ := Zd c145; clear c145
        by_cases c146 : t541 = t543
        ·
         rw [if_pos c146] at H; have c146b0 : (t541 == t543) = true := beq_iff_eq.mpr c146; have c146b1 : (t541 != t543) = false := bne_eq_false_iff_eq.mpr c146; clear c146
         by_cases c147 : (t530 != t526) = true
         ·
          rw [if_pos c147] at H
          exact absurd H (by simp)
         ·
          rw [if_neg c147] at H; obtain ⟨c147b0, c147b1, c147b2⟩ := Zd c147; clear c147
          by_cases c148 : t526 = true
          ·
           subst c148
           rw [if_pos rfl] at H
           by_cases c149 : (t536 != (!t525)) = true
           ·
            rw [if_pos c149] at H
            exact absurd H (by simp)
           · as_aux_lemma =>
            rw [if_neg c149] at H; obtain ⟨c149b0, c149b1, c149b2⟩ := Zd c149; clear c149; have H' := Aside0.mk H; clear H; obtain ⟨Ao150, co150, eo150⟩ := Kd.R_slice HO535.out; subst eo150; obtain ⟨Ao151, co151, eo151⟩ := Kd.R_slice HO539.out; subst eo151
            go_wp2_with (first | (go_at_call 10; (with_reducible refine (laws_kSame.calls kj46 _ _ t533 _ _ t537 true _ ?side1 ?side2 ?side3 ?side4 A143.out).mono ?_); (case side1 => repeat (first | exact (Kd.R_reads' HO535.out).2.2 | (with_reducible refine Kd.C_alloc ?_ _) | (with_reducible refine Kd.C_drewN ?_ _) | (with_reducible refine Kd.C_drew ?_))); (case side2 => exact (Kd.R_reads' HO535.out).2.1); (case side3 => repeat (first | exact (Kd.R_reads' HO539.out).2.2 | (with_reducible refine Kd.C_alloc ?_ _) | (with_reducible refine Kd.C_drewN ?_ _) | (with_reducible refine Kd.C_drew ?_))); (case side4 => exact (Kd.R_reads' HO539.out).2.1); rintro e w' ⟨rfl, ⟨nd, rfl⟩⟩))
            try (rotate_left; exact absurd ((show ∀ a b : Bool, (a != !b) = false → a = !b by decide) _ _ c149b0) (by assumption))
            (try simp only [(show ∀ a b : Bool, (a != !b) = false → (!b) = a by decide) _ _ c149b0])
            go_meet
            case rel => exact ⟨_, ((t542 != t525)), (by first | rfl | (simp; done) | (simp [*]; done)), H', ⟨by have := HJ9.out; have := HJ35.out; have := HJ46.out; first | omega | exact Nat.le_refl _⟩, ⟨Zc HO535⟩, ⟨Zc HO523⟩, ⟨Zb BK524⟩, ⟨Zl HB⟩⟩
          ·
           replace c148 := Bool.eq_false_iff.mpr c148
           subst c148
           rw [if_neg Bool.false_ne_true] at H
           by_cases c152 : (t536 != false) = true
           ·
            rw [if_pos c152] at H
            exact absurd H (by simp)
           · as_aux_lemma =>
            rw [if_neg c152] at H; obtain ⟨c152b0, c152b1, c152b2⟩ := Zd c152; clear c152; have H' := Aside0.mk H; clear H; obtain ⟨Ao153, co153, eo153⟩ := Kd.R_slice HO535.out; subst eo153; obtain ⟨Ao154, co154, eo154⟩ := Kd.R_slice HO539.out; subst eo154
            go_wp2_with (first | (go_at_call 10; (with_reducible refine (laws_kSame.calls kj46 _ _ t533 _ _ t537 true _ ?side1 ?side2 ?side3 ?side4 A143.out).mono ?_); (case side1 => repeat (first | exact (Kd.R_reads' HO535.out).2.2 | (with_reducible refine Kd.C_alloc ?_ _) | (with_reducible refine Kd.C_drewN ?_ _) | (with_reducible refine Kd.C_drew ?_))); (case side2 => exact (Kd.R_reads' HO535.out).2.1); (case side3 => repeat (first | exact (Kd.R_reads' HO539.out).2.2 | (with_reducible refine Kd.C_alloc ?_ _) | (with_reducible refine Kd.C_drewN ?_ _) | (with_reducible refine Kd.C_drew ?_))); (case side4 => exact (Kd.R_reads' HO539.out).2.1); rintro e w' ⟨rfl, ⟨nd, rfl⟩⟩))
            go_meet
            case rel => exact ⟨_, ((t542 != false)), (by first | rfl | (simp; done) | (simp [*]; done)), H', ⟨by have := HJ9.out; have := HJ35.out; have := HJ46.out; first | omega | exact Nat.le_refl _⟩, ⟨Zc HO535⟩, ⟨Zc HO523⟩, ⟨Zb BK524⟩, ⟨Zl HB⟩⟩
        ·
         rw [if_neg c146] at H
         exact absurd H (by simp)
      ·
       replace c144 := Bool.eq_false_iff.mpr c144
       subst c144
       rw [if_neg Bool.false_ne_true] at H
       exact absurd H (by simp)
    ·
     rw [if_neg c141] at H
     exact absurd H (by simp)

end Go.Proofs.Ytnagcjhgojchlac.Q
