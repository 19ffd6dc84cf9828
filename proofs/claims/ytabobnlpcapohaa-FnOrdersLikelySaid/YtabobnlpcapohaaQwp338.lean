/- Each function below comes to the Lean function beside it (theorems '.calls'); no condition beyond each theorem's own. Written by our program oprint.py over the kit's print. -/
import Derived.Test.YtabobnlpcapohaaQwp189
namespace Go.Proofs.Ytabobnlpcapohaa.Q
open Go.RowKit Go.Proofs.YtabobnlpcapohaaW.PrintWords Go.Proofs.YtabobnlpcapohaaW.PrintLast Go.Proofs.YtabobnlpcapohaaW.PrintMore
attribute [local go_sem] max2_int min2_int max_two min_two max_three min_three max_four min_four
set_option linter.unusedVariables false
set_option linter.unusedSimpArgs false

attribute [local go_sem high] eqA30
set_option maxHeartbeats 8000000 in
set_option maxRecDepth 100000 in
theorem laws_FnOrdersLikely_p338 : laws_FnOrdersLikely_p189.Q2 := by
 iterate 855 (intro _)
 intro k A0 c0 l0 A1 c1 l1 r w hu30 HR0 HC0 HR1 HC1 A3 t520 t521 t522 A5 t525 t527 t528 A7 t529 t530 t531 A8 t533 t534 t535 A9 _ w11 Ao12 co12 w13 w14 w15 gb532 w16 GW532 GE532 w18 gb536 w19 HO524 BK536 GW536 GE536 _ NB532_536 NB536_532 _ kj9 HJ9 _ A6 _ t537 t538 A32 t539 t540 A33 t541 t542 A34 t543 t544 A35 t547 t548 A36 nd w38 w39 w40 Ao41 co41 w42 _ HO546 BK532 _ wc HO_7 HB kj36 HJ36 _ _ _ H c53
 rw [if_neg c53] at H; have c53b0 : decide (t521 < t539) = false := decide_eq_false c53; clear c53
 (first | rw [c53b0] | (simp only [i64_w, i32_w]; rw [c53b0]) | skip)
 by_cases c68 : (Int.tmod (wrap64 (t539 - t521)) 2) = 0
 ·
  rw [if_pos c68] at H; have c68b0 : ((Int.tmod (wrap64 (t539 - t521)) 2) == 0) = true := beq_iff_eq.mpr c68; have c68b1 : ((Int.tmod (wrap64 (t539 - t521)) 2) != 0) = false := bne_eq_false_iff_eq.mpr c68; clear c68
  by_cases c69 : t539 = t521
  ·
   rw [if_pos c69] at H; have c69b0 : (t539 == t521) = true := beq_iff_eq.mpr c69; have c69b1 : (t539 != t521) = false := bne_eq_false_iff_eq.mpr c69; clear c69
   by_cases c70 : t525 = t541
   ·
    rw [if_pos c70] at H; have c70b0 : (t525 == t541) = true := beq_iff_eq.mpr c70; have c70b1 : (t525 != t541) = false := bne_eq_false_iff_eq.mpr c70; clear c70
    by_cases c71 : t539 < t521
    ·
     rw [if_pos c71] at H; have c71b0 : decide (t539 < t521) = true := decide_eq_true c71; clear c71
     by_cases c72 : (Int.tmod (wrap64 (t521 - t539)) 2) = 0
     · as_aux_lemma =>
      rw [if_pos c72] at H; have c72b0 : ((Int.tmod (wrap64 (t521 - t539)) 2) == 0) = true := beq_iff_eq.mpr c72; have c72b1 : ((Int.tmod (wrap64 (t521 - t539)) 2) != 0) = false := bne_eq_false_iff_eq.mpr c72; clear c72; have H' := Aside0.mk H; clear H
      go_wp2
      repeat (go_quiet (fail); try go_wp2)
      go_meet
      case rel => exact ⟨_, (decide (t525 < 1)), (by first | rfl | (simp; done) | (simp [*]; done)), H', ⟨by have := HJ9.out; have := HJ36.out; first | omega | exact Nat.le_refl _⟩, ⟨Zr HO_7⟩, ⟨Zl HB⟩⟩
     · as_aux_lemma =>
      rw [if_neg c72] at H; have c72b0 : ((Int.tmod (wrap64 (t521 - t539)) 2) == 0) = false := beq_eq_false_iff_ne.mpr c72; have c72b1 : ((Int.tmod (wrap64 (t521 - t539)) 2) != 0) = true := bne_iff_ne.mpr c72; have H' := Aside0.mk H; clear H
      go_wp2
      repeat (go_quiet (fail); try go_wp2)
      go_meet
      case rel => exact ⟨_, (false), (by first | rfl | (simp; done) | (simp [*]; done)), H', ⟨by have := HJ9.out; have := HJ36.out; first | omega | exact Nat.le_refl _⟩, ⟨Zr HO_7⟩, ⟨Zl HB⟩⟩
    · as_aux_lemma =>
     rw [if_neg c71] at H; have c71b0 : decide (t539 < t521) = false := decide_eq_false c71; clear c71; have H' := Aside0.mk H; clear H
     go_wp2
     repeat (go_quiet (fail); try go_wp2)
     go_meet
     case rel => exact ⟨_, (false), (by first | rfl | (simp; done) | (simp [*]; done)), H', ⟨by have := HJ9.out; have := HJ36.out; first | omega | exact Nat.le_refl _⟩, ⟨Zr HO_7⟩, ⟨Zl HB⟩⟩
   ·
    rw [if_neg c70] at H
    exact absurd H (by simp)
  ·
   rw [if_neg c69] at H; have c69b0 : (t539 == t521) = false := beq_eq_false_iff_ne.mpr c69; have c69b1 : (t539 != t521) = true := bne_iff_ne.mpr c69
   by_cases c73 : t539 < t521
   ·
    rw [if_pos c73] at H; have c73b0 : decide (t539 < t521) = true := decide_eq_true c73; clear c73
    by_cases c74 : (Int.tmod (wrap64 (t521 - t539)) 2) = 0
    · as_aux_lemma =>
     rw [if_pos c74] at H; have c74b0 : ((Int.tmod (wrap64 (t521 - t539)) 2) == 0) = true := beq_iff_eq.mpr c74; have c74b1 : ((Int.tmod (wrap64 (t521 - t539)) 2) != 0) = false := bne_eq_false_iff_eq.mpr c74; clear c74; have H' := Aside0.mk H; clear H
     go_wp2
     repeat (go_quiet (fail); try go_wp2)
     go_meet
     case rel => exact ⟨_, (decide (t525 < 1)), (by first | rfl | (simp; done) | (simp [*]; done)), H', ⟨by have := HJ9.out; have := HJ36.out; first | omega | exact Nat.le_refl _⟩, ⟨Zr HO_7⟩, ⟨Zl HB⟩⟩
    · as_aux_lemma =>
     rw [if_neg c74] at H; have c74b0 : ((Int.tmod (wrap64 (t521 - t539)) 2) == 0) = false := beq_eq_false_iff_ne.mpr c74; have c74b1 : ((Int.tmod (wrap64 (t521 - t539)) 2) != 0) = true := bne_iff_ne.mpr c74; have H' := Aside0.mk H; clear H
     go_wp2
     repeat (go_quiet (fail); try go_wp2)
     go_meet
     case rel => exact ⟨_, (false), (by first | rfl | (simp; done) | (simp [*]; done)), H', ⟨by have := HJ9.out; have := HJ36.out; first | omega | exact Nat.le_refl _⟩, ⟨Zr HO_7⟩, ⟨Zl HB⟩⟩
   · as_aux_lemma =>
    rw [if_neg c73] at H; have c73b0 : decide (t539 < t521) = false := decide_eq_false c73; clear c73; have H' := Aside0.mk H; clear H
    go_wp2
    repeat (go_quiet (fail); try go_wp2)
    go_meet
    case rel => exact ⟨_, (false), (by first | rfl | (simp; done) | (simp [*]; done)), H', ⟨by have := HJ9.out; have := HJ36.out; first | omega | exact Nat.le_refl _⟩, ⟨Zr HO_7⟩, ⟨Zl HB⟩⟩
 ·
  rw [if_neg c68] at H; have c68b0 : ((Int.tmod (wrap64 (t539 - t521)) 2) == 0) = false := beq_eq_false_iff_ne.mpr c68; have c68b1 : ((Int.tmod (wrap64 (t539 - t521)) 2) != 0) = true := bne_iff_ne.mpr c68
  by_cases c75 : t525 = 0
  ·
   rw [if_pos c75] at H; have c75b0 : (t525 == 0) = true := beq_iff_eq.mpr c75; have c75b1 : (t525 != 0) = false := bne_eq_false_iff_eq.mpr c75; clear c75
   by_cases c76 : t539 = t521
   ·
    rw [if_pos c76] at H; have c76b0 : (t539 == t521) = true := beq_iff_eq.mpr c76; have c76b1 : (t539 != t521) = false := bne_eq_false_iff_eq.mpr c76; clear c76
    by_cases c77 : t525 = t541
    ·
     rw [if_pos c77] at H; have c77b0 : (t525 == t541) = true := beq_iff_eq.mpr c77; have c77b1 : (t525 != t541) = false := bne_eq_false_iff_eq.mpr c77; clear c77
     by_cases c78 : t539 < t521
     ·
      rw [if_pos c78] at H; have c78b0 : decide (t539 < t521) = true := decide_eq_true c78; clear c78
      by_cases c79 : (Int.tmod (wrap64 (t521 - t539)) 2) = 0
      · as_aux_lemma =>
       rw [if_pos c79] at H; have c79b0 : ((Int.tmod (wrap64 (t521 - t539)) 2) == 0) = true := beq_iff_eq.mpr c79; have c79b1 : ((Int.tmod (wrap64 (t521 - t539)) 2) != 0) = false := bne_eq_false_iff_eq.mpr c79; clear c79; have H' := Aside0.mk H; clear H
       go_wp2
       repeat (go_quiet (fail); try go_wp2)
       go_meet
       case rel => exact ⟨_, (decide (t525 < 1)), (by first | rfl | (simp; done) | (simp [*]; done)), H', ⟨by have := HJ9.out; have := HJ36.out; first | omega | exact Nat.le_refl _⟩, ⟨Zr HO_7⟩, ⟨Zl HB⟩⟩
      · as_aux_lemma =>
       rw [if_neg c79] at H; have c79b0 : ((Int.tmod (wrap64 (t521 - t539)) 2) == 0) = false := beq_eq_false_iff_ne.mpr c79; have c79b1 : ((Int.tmod (wrap64 (t521 - t539)) 2) != 0) = true := bne_iff_ne.mpr c79; have H' := Aside0.mk H; clear H
       go_wp2
       repeat (go_quiet (fail); try go_wp2)
       go_meet
       case rel => exact ⟨_, (false), (by first | rfl | (simp; done) | (simp [*]; done)), H', ⟨by have := HJ9.out; have := HJ36.out; first | omega | exact Nat.le_refl _⟩, ⟨Zr HO_7⟩, ⟨Zl HB⟩⟩
     · as_aux_lemma =>
      rw [if_neg c78] at H; have c78b0 : decide (t539 < t521) = false := decide_eq_false c78; clear c78; have H' := Aside0.mk H; clear H
      go_wp2
      repeat (go_quiet (fail); try go_wp2)
      go_meet
      case rel => exact ⟨_, (false), (by first | rfl | (simp; done) | (simp [*]; done)), H', ⟨by have := HJ9.out; have := HJ36.out; first | omega | exact Nat.le_refl _⟩, ⟨Zr HO_7⟩, ⟨Zl HB⟩⟩
    ·
     rw [if_neg c77] at H
     exact absurd H (by simp)
   ·
    rw [if_neg c76] at H; have c76b0 : (t539 == t521) = false := beq_eq_false_iff_ne.mpr c76; have c76b1 : (t539 != t521) = true := bne_iff_ne.mpr c76
    by_cases c80 : t539 < t521
    ·
     rw [if_pos c80] at H; have c80b0 : decide (t539 < t521) = true := decide_eq_true c80; clear c80
     by_cases c81 : (Int.tmod (wrap64 (t521 - t539)) 2) = 0
     · as_aux_lemma =>
      rw [if_pos c81] at H; have c81b0 : ((Int.tmod (wrap64 (t521 - t539)) 2) == 0) = true := beq_iff_eq.mpr c81; have c81b1 : ((Int.tmod (wrap64 (t521 - t539)) 2) != 0) = false := bne_eq_false_iff_eq.mpr c81; clear c81; have H' := Aside0.mk H; clear H
      go_wp2
      repeat (go_quiet (fail); try go_wp2)
      go_meet
      case rel => exact ⟨_, (decide (t525 < 1)), (by first | rfl | (simp; done) | (simp [*]; done)), H', ⟨by have := HJ9.out; have := HJ36.out; first | omega | exact Nat.le_refl _⟩, ⟨Zr HO_7⟩, ⟨Zl HB⟩⟩
     · as_aux_lemma =>
      rw [if_neg c81] at H; have c81b0 : ((Int.tmod (wrap64 (t521 - t539)) 2) == 0) = false := beq_eq_false_iff_ne.mpr c81; have c81b1 : ((Int.tmod (wrap64 (t521 - t539)) 2) != 0) = true := bne_iff_ne.mpr c81; have H' := Aside0.mk H; clear H
      go_wp2
      repeat (go_quiet (fail); try go_wp2)
      go_meet
      case rel => exact ⟨_, (false), (by first | rfl | (simp; done) | (simp [*]; done)), H', ⟨by have := HJ9.out; have := HJ36.out; first | omega | exact Nat.le_refl _⟩, ⟨Zr HO_7⟩, ⟨Zl HB⟩⟩
    · as_aux_lemma =>
     rw [if_neg c80] at H; have c80b0 : decide (t539 < t521) = false := decide_eq_false c80; clear c80; have H' := Aside0.mk H; clear H
     go_wp2
     repeat (go_quiet (fail); try go_wp2)
     go_meet
     case rel => exact ⟨_, (false), (by first | rfl | (simp; done) | (simp [*]; done)), H', ⟨by have := HJ9.out; have := HJ36.out; first | omega | exact Nat.le_refl _⟩, ⟨Zr HO_7⟩, ⟨Zl HB⟩⟩
  ·
   rw [if_neg c75] at H
   exact absurd H (by simp)

end Go.Proofs.Ytabobnlpcapohaa.Q
