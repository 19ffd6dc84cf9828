/- Each function below comes to the Lean function beside it (theorems '.calls'); no condition beyond each theorem's own. Written by our program oprint.py over the kit's print. -/
import Derived.Test.YtabobnlpcapohaaQwp189
namespace Go.Proofs.Ytabobnlpcapohaa.Q
open Go.RowKit Go.Proofs.YtabobnlpcapohaaW.PrintWords Go.Proofs.YtabobnlpcapohaaW.PrintLast Go.Proofs.YtabobnlpcapohaaW.PrintMore
attribute [local go_sem] max2_int min2_int max_two min_two max_three min_three max_four min_four
set_option linter.unusedVariables false
set_option linter.unusedSimpArgs false

attribute [local go_sem high] eqA30
set_option maxHeartbeats 8000000 in
set_option maxRecDepth 100000 in
theorem laws_FnOrdersLikely_p214 : laws_FnOrdersLikely_p189.Q1 := by
 iterate 855 (intro _)
 intro k A0 c0 l0 A1 c1 l1 r w hu30 HR0 HC0 HR1 HC1 A3 t520 t521 t522 A5 t525 t527 t528 A7 t529 t530 t531 A8 t533 t534 t535 A9 _ w11 Ao12 co12 w13 w14 w15 gb532 w16 GW532 GE532 w18 gb536 w19 HO524 BK536 GW536 GE536 _ NB532_536 NB536_532 _ kj9 HJ9 _ A6 _ t537 t538 A32 t539 t540 A33 t541 t542 A34 t543 t544 A35 t547 t548 A36 nd w38 w39 w40 Ao41 co41 w42 _ HO546 BK532 _ wc HO_7 HB kj36 HJ36 _ _ _ H c53
 rw [if_pos c53] at H; have c53b0 : decide (t521 < t539) = true := decide_eq_true c53; clear c53
 (first | rw [c53b0] | (simp only [i64_w, i32_w]; rw [c53b0]) | skip)
 by_cases c54 : t525 = 0
 ·
  rw [if_pos c54] at H; have c54b0 : (t525 == 0) = true := beq_iff_eq.mpr c54; have c54b1 : (t525 != 0) = false := bne_eq_false_iff_eq.mpr c54; clear c54
  by_cases c55 : (Int.tmod (wrap64 (t539 - t521)) 2) = 0
  ·
   rw [if_pos c55] at H; have c55b0 : ((Int.tmod (wrap64 (t539 - t521)) 2) == 0) = true := beq_iff_eq.mpr c55; have c55b1 : ((Int.tmod (wrap64 (t539 - t521)) 2) != 0) = false := bne_eq_false_iff_eq.mpr c55; clear c55
   by_cases c56 : t539 = t521
   ·
    rw [if_pos c56] at H; have c56b0 : (t539 == t521) = true := beq_iff_eq.mpr c56; have c56b1 : (t539 != t521) = false := bne_eq_false_iff_eq.mpr c56; clear c56
    by_cases c57 : t525 = t541
    ·
     rw [if_pos c57] at H; have c57b0 : (t525 == t541) = true := beq_iff_eq.mpr c57; have c57b1 : (t525 != t541) = false := bne_eq_false_iff_eq.mpr c57; clear c57
     by_cases c58 : t539 < t521
     ·
      rw [if_pos c58] at H; have c58b0 : decide (t539 < t521) = true := decide_eq_true c58; clear c58
      by_cases c59 : (Int.tmod (wrap64 (t521 - t539)) 2) = 0
      · as_aux_lemma =>
       rw [if_pos c59] at H; have c59b0 : ((Int.tmod (wrap64 (t521 - t539)) 2) == 0) = true := beq_iff_eq.mpr c59; have c59b1 : ((Int.tmod (wrap64 (t521 - t539)) 2) != 0) = false := bne_eq_false_iff_eq.mpr c59; clear c59; have H' := Aside0.mk H; clear H
       go_wp2
       repeat (go_quiet (fail); try go_wp2)
       go_meet
       case rel => exact ⟨_, (decide (t525 < 1)), (by first | rfl | (simp; done) | (simp [*]; done)), H', ⟨by have := HJ9.out; have := HJ36.out; first | omega | exact Nat.le_refl _⟩, ⟨Zr HO_7⟩, ⟨Zl HB⟩⟩
      · as_aux_lemma =>
       rw [if_neg c59] at H; have c59b0 : ((Int.tmod (wrap64 (t521 - t539)) 2) == 0) = false := beq_eq_false_iff_ne.mpr c59; have c59b1 : ((Int.tmod (wrap64 (t521 - t539)) 2) != 0) = true := bne_iff_ne.mpr c59; have H' := Aside0.mk H; clear H
       go_wp2
       repeat (go_quiet (fail); try go_wp2)
       go_meet
       case rel => exact ⟨_, (false), (by first | rfl | (simp; done) | (simp [*]; done)), H', ⟨by have := HJ9.out; have := HJ36.out; first | omega | exact Nat.le_refl _⟩, ⟨Zr HO_7⟩, ⟨Zl HB⟩⟩
     · as_aux_lemma =>
      rw [if_neg c58] at H; have c58b0 : decide (t539 < t521) = false := decide_eq_false c58; clear c58; have H' := Aside0.mk H; clear H
      go_wp2
      repeat (go_quiet (fail); try go_wp2)
      go_meet
      case rel => exact ⟨_, (false), (by first | rfl | (simp; done) | (simp [*]; done)), H', ⟨by have := HJ9.out; have := HJ36.out; first | omega | exact Nat.le_refl _⟩, ⟨Zr HO_7⟩, ⟨Zl HB⟩⟩
    ·
     rw [if_neg c57] at H
     exact absurd H (by simp)
   ·
    rw [if_neg c56] at H; have c56b0 : (t539 == t521) = false := beq_eq_false_iff_ne.mpr c56; have c56b1 : (t539 != t521) = true := bne_iff_ne.mpr c56
    by_cases c60 : t539 < t521
    ·
     rw [if_pos c60] at H; have c60b0 : decide (t539 < t521) = true := decide_eq_true c60; clear c60
     by_cases c61 : (Int.tmod (wrap64 (t521 - t539)) 2) = 0
     · as_aux_lemma =>
      rw [if_pos c61] at H; have c61b0 : ((Int.tmod (wrap64 (t521 - t539)) 2) == 0) = true := beq_iff_eq.mpr c61; have c61b1 : ((Int.tmod (wrap64 (t521 - t539)) 2) != 0) = false := bne_eq_false_iff_eq.mpr c61; clear c61; have H' := Aside0.mk H; clear H
      go_wp2
      repeat (go_quiet (fail); try go_wp2)
      go_meet
      case rel => exact ⟨_, (decide (t525 < 1)), (by first | rfl | (simp; done) | (simp [*]; done)), H', ⟨by have := HJ9.out; have := HJ36.out; first | omega | exact Nat.le_refl _⟩, ⟨Zr HO_7⟩, ⟨Zl HB⟩⟩
     · as_aux_lemma =>
      rw [if_neg c61] at H; have c61b0 : ((Int.tmod (wrap64 (t521 - t539)) 2) == 0) = false := beq_eq_false_iff_ne.mpr c61; have c61b1 : ((Int.tmod (wrap64 (t521 - t539)) 2) != 0) = true := bne_iff_ne.mpr c61; have H' := Aside0.mk H; clear H
      go_wp2
      repeat (go_quiet (fail); try go_wp2)
      go_meet
      case rel => exact ⟨_, (false), (by first | rfl | (simp; done) | (simp [*]; done)), H', ⟨by have := HJ9.out; have := HJ36.out; first | omega | exact Nat.le_refl _⟩, ⟨Zr HO_7⟩, ⟨Zl HB⟩⟩
    · as_aux_lemma =>
     rw [if_neg c60] at H; have c60b0 : decide (t539 < t521) = false := decide_eq_false c60; clear c60; have H' := Aside0.mk H; clear H
     go_wp2
     repeat (go_quiet (fail); try go_wp2)
     go_meet
     case rel => exact ⟨_, (false), (by first | rfl | (simp; done) | (simp [*]; done)), H', ⟨by have := HJ9.out; have := HJ36.out; first | omega | exact Nat.le_refl _⟩, ⟨Zr HO_7⟩, ⟨Zl HB⟩⟩
  ·
   rw [if_neg c55] at H; have c55b0 : ((Int.tmod (wrap64 (t539 - t521)) 2) == 0) = false := beq_eq_false_iff_ne.mpr c55; have c55b1 : ((Int.tmod (wrap64 (t539 - t521)) 2) != 0) = true := bne_iff_ne.mpr c55
   by_cases c62 : t539 = t521
   ·
    rw [if_pos c62] at H; have c62b0 : (t539 == t521) = true := beq_iff_eq.mpr c62; have c62b1 : (t539 != t521) = false := bne_eq_false_iff_eq.mpr c62; clear c62
    by_cases c63 : t525 = t541
    ·
     rw [if_pos c63] at H; have c63b0 : (t525 == t541) = true := beq_iff_eq.mpr c63; have c63b1 : (t525 != t541) = false := bne_eq_false_iff_eq.mpr c63; clear c63
     by_cases c64 : t539 < t521
     ·
      rw [if_pos c64] at H; have c64b0 : decide (t539 < t521) = true := decide_eq_true c64; clear c64
      by_cases c65 : (Int.tmod (wrap64 (t521 - t539)) 2) = 0
      · as_aux_lemma =>
       rw [if_pos c65] at H; have c65b0 : ((Int.tmod (wrap64 (t521 - t539)) 2) == 0) = true := beq_iff_eq.mpr c65; have c65b1 : ((Int.tmod (wrap64 (t521 - t539)) 2) != 0) = false := bne_eq_false_iff_eq.mpr c65; clear c65; have H' := Aside0.mk H; clear H
       go_wp2
       repeat (go_quiet (fail); try go_wp2)
       go_meet
       case rel => exact ⟨_, (decide (t525 < 1)), (by first | rfl | (simp; done) | (simp [*]; done)), H', ⟨by have := HJ9.out; have := HJ36.out; first | omega | exact Nat.le_refl _⟩, ⟨Zr HO_7⟩, ⟨Zl HB⟩⟩
      · as_aux_lemma =>
       rw [if_neg c65] at H; have c65b0 : ((Int.tmod (wrap64 (t521 - t539)) 2) == 0) = false := beq_eq_false_iff_ne.mpr c65; have c65b1 : ((Int.tmod (wrap64 (t521 - t539)) 2) != 0) = true := bne_iff_ne.mpr c65; have H' := Aside0.mk H; clear H
       go_wp2
       repeat (go_quiet (fail); try go_wp2)
       go_meet
       case rel => exact ⟨_, (false), (by first | rfl | (simp; done) | (simp [*]; done)), H', ⟨by have := HJ9.out; have := HJ36.out; first | omega | exact Nat.le_refl _⟩, ⟨Zr HO_7⟩, ⟨Zl HB⟩⟩
     · as_aux_lemma =>
      rw [if_neg c64] at H; have c64b0 : decide (t539 < t521) = false := decide_eq_false c64; clear c64; have H' := Aside0.mk H; clear H
      go_wp2
      repeat (go_quiet (fail); try go_wp2)
      go_meet
      case rel => exact ⟨_, (false), (by first | rfl | (simp; done) | (simp [*]; done)), H', ⟨by have := HJ9.out; have := HJ36.out; first | omega | exact Nat.le_refl _⟩, ⟨Zr HO_7⟩, ⟨Zl HB⟩⟩
    ·
     rw [if_neg c63] at H
     exact absurd H (by simp)
   ·
    rw [if_neg c62] at H; have c62b0 : (t539 == t521) = false := beq_eq_false_iff_ne.mpr c62; have c62b1 : (t539 != t521) = true := bne_iff_ne.mpr c62
    by_cases c66 : t539 < t521
    ·
     rw [if_pos c66] at H; have c66b0 : decide (t539 < t521) = true := decide_eq_true c66; clear c66
     by_cases c67 : (Int.tmod (wrap64 (t521 - t539)) 2) = 0
     · as_aux_lemma =>
      rw [if_pos c67] at H; have c67b0 : ((Int.tmod (wrap64 (t521 - t539)) 2) == 0) = true := beq_iff_eq.mpr c67; have c67b1 : ((Int.tmod (wrap64 (t521 - t539)) 2) != 0) = false := bne_eq_false_iff_eq.mpr c67; clear c67; have H' := Aside0.mk H; clear H
      go_wp2
      repeat (go_quiet (fail); try go_wp2)
      go_meet
      case rel => exact ⟨_, (decide (t525 < 1)), (by first | rfl | (simp; done) | (simp [*]; done)), H', ⟨by have := HJ9.out; have := HJ36.out; first | omega | exact Nat.le_refl _⟩, ⟨Zr HO_7⟩, ⟨Zl HB⟩⟩
     · as_aux_lemma =>
      rw [if_neg c67] at H; have c67b0 : ((Int.tmod (wrap64 (t521 - t539)) 2) == 0) = false := beq_eq_false_iff_ne.mpr c67; have c67b1 : ((Int.tmod (wrap64 (t521 - t539)) 2) != 0) = true := bne_iff_ne.mpr c67; have H' := Aside0.mk H; clear H
      go_wp2
      repeat (go_quiet (fail); try go_wp2)
      go_meet
      case rel => exact ⟨_, (false), (by first | rfl | (simp; done) | (simp [*]; done)), H', ⟨by have := HJ9.out; have := HJ36.out; first | omega | exact Nat.le_refl _⟩, ⟨Zr HO_7⟩, ⟨Zl HB⟩⟩
    · as_aux_lemma =>
     rw [if_neg c66] at H; have c66b0 : decide (t539 < t521) = false := decide_eq_false c66; clear c66; have H' := Aside0.mk H; clear H
     go_wp2
     repeat (go_quiet (fail); try go_wp2)
     go_meet
     case rel => exact ⟨_, (false), (by first | rfl | (simp; done) | (simp [*]; done)), H', ⟨by have := HJ9.out; have := HJ36.out; first | omega | exact Nat.le_refl _⟩, ⟨Zr HO_7⟩, ⟨Zl HB⟩⟩
 ·
  rw [if_neg c54] at H
  exact absurd H (by simp)

end Go.Proofs.Ytabobnlpcapohaa.Q
