/- Each function below comes to the Lean function beside it (theorems '.calls'); no condition beyond each theorem's own. Written by our program oprint.py over the kit's print. -/
import Derived.Test.YtabobnlpcapohaaQwp189
namespace Go.Proofs.Ytabobnlpcapohaa.Q
open Go.RowKit Go.Proofs.YtabobnlpcapohaaW.PrintWords Go.Proofs.YtabobnlpcapohaaW.PrintLast Go.Proofs.YtabobnlpcapohaaW.PrintMore
attribute [local go_sem] max2_int min2_int max_two min_two max_three min_three max_four min_four
set_option linter.unusedVariables false
set_option linter.unusedSimpArgs false

attribute [local go_sem high] eqA30
set_option maxHeartbeats 8000000 in
set_option maxRecDepth 100000 in
theorem laws_FnOrdersLikely_p462 : laws_FnOrdersLikely_p189.Q3 := by
 iterate 1276 (intro _)
 intro k A0 c0 l0 A1 c1 l1 r w hu30 HR0 HC0 HR1 HC1 A3 t520 t521 t522 A5 t525 t527 t528 A7 t529 t530 t531 A8 t533 t534 t535 A9 _ w11 Ao12 co12 w13 w14 w15 gb532 w16 GW532 GE532 w18 gb536 w19 HO524 BK536 GW536 GE536 _ NB532_536 NB536_532 _ kj9 HJ9 _ A6 _ t537 t538 A32 t539 t540 A33 t541 t542 A34 t543 t544 A35 t547 t548 A36 nd w38 w39 w40 Ao41 co41 w42 _ HO546 BK532 _ HO_7 HB kj36 HJ36 HC52 _ _ wc hcut
 (clear HC52; (try clear c1); ); obtain ⟨kq, x232_51, rfl, HA, HJ51, HO_7, HB⟩ := hcut
 cases kq with
 | zero => exact absurd HA.out (by simp [laws_FnOrdersLikely.j2])
 | succ kj51 =>
  have H := HA.out; clear HA
  simp only [laws_FnOrdersLikely.j2] at H
  by_cases c82 : x232_51 = true
  ·
   subst c82
   rw [if_pos rfl] at H
   exact absurd H (by simp)
  ·
   replace c82 := Bool.eq_false_iff.mpr c82
   subst c82
   rw [if_neg Bool.false_ne_true] at H
   replace H := Option.bind_eq_some_iff.mp H; obtain ⟨⟨t549, t550⟩, A830, H⟩ := H; (try dsimp only at H); have A83 := Aside0.mk A830; clear A830; replace H := Option.bind_eq_some_iff.mp H; obtain ⟨⟨t553, t554⟩, A840, H⟩ := H; (try dsimp only at H); have A84 := Aside0.mk A840; clear A840
   by_cases c85 : t550 = true
   ·
    subst c85
    rw [if_pos rfl] at H
    by_cases c86 : t554 = true
    ·
     subst c86
     rw [if_pos rfl] at H
     by_cases c87 : t553 < t525
     ·
      rw [if_pos c87] at H
      exact absurd H (by simp)
     ·
      rw [if_neg c87] at H; have c87b0 : decide (t553 < t525) = false := decide_eq_false c87; clear c87
      by_cases c88 : t553 = t525
      ·
       rw [if_pos c88] at H; have c88b0 : (t553 == t525) = true := beq_iff_eq.mpr c88; have c88b1 : (t553 != t525) = false := bne_eq_false_iff_eq.mpr c88; clear c88; replace H := Option.bind_eq_some_iff.mp H; obtain ⟨t555, A890, H⟩ := H; (try dsimp only at H); have A89 := Aside0.mk A890; clear A890
       by_cases c90 : t555 = true
       ·
        subst c90
        rw [if_pos rfl] at H
        exact absurd H (by simp)
       · as_aux_lemma =>
        replace c90 := Bool.eq_false_iff.mpr c90
        subst c90
        rw [if_neg Bool.false_ne_true] at H
        have H' := Aside0.mk H; clear H
        go_wp2_with (first | (go_at_call 14; (with_reducible refine (impl_LikeliestOrder.calls kj51 t520 t521 t549 true _ A83.out).mono ?_); rintro e w91 ⟨v551, rfl, ho0, hb⟩; have HO552 := Zj (Zv ho0 HO_7) HB; replace HO_7 := Zm (Kd.R_elder' (Zr HO_7) (Kd.R_base ho0) hb); replace HB := Zh HB hb; (try clear hb); (try clear ho0); obtain ⟨Ao92, co92, eo92⟩ := Kd.R_slice HO552.out; subst eo92) | (go_at_call 6; (with_reducible refine (impl_CountForOrder.calls kj51 t520 t521 _ _ t549 t553 true _ ?side1 ?side2 A84.out).mono ?_); (case side1 => repeat (first | exact (Kd.R_reads' HO552.out).2.2 | (with_reducible refine Kd.C_alloc ?_ _) | (with_reducible refine Kd.C_drewN ?_ _) | (with_reducible refine Kd.C_drew ?_))); (case side2 => exact (Kd.R_reads' HO552.out).2.1); rintro e w93 ⟨rfl, hb⟩; replace HO_7 := Zo HO_7 hb; replace HO552 := Zo HO552 hb; replace HB := Zh HB hb; (try clear hb); (try clear hb2); (try clear hk); (try clear hi)) | (go_at_call 15; (with_reducible refine (laws_nLess.calls kj51 _ _ t522 _ _ t549 false _ ?side1 ?side2 ?side3 ?side4 A89.out).mono ?_); (case side1 => repeat (first | exact (Kd.R_reads' HO_7.out).2.2 | (with_reducible refine Kd.C_alloc ?_ _) | (with_reducible refine Kd.C_drewN ?_ _) | (with_reducible refine Kd.C_drew ?_))); (case side2 => exact (Kd.R_reads' HO_7.out).2.1); (case side3 => repeat (first | exact (Kd.R_reads' HO552.out).2.2 | (with_reducible refine Kd.C_alloc ?_ _) | (with_reducible refine Kd.C_drewN ?_ _) | (with_reducible refine Kd.C_drew ?_))); (case side4 => exact (Kd.R_reads' HO552.out).2.1); rintro e w' ⟨rfl, ⟨nd, rfl⟩⟩; (try first | exact ⟨rfl, _, World.drewN_drewN _ _ _⟩ | exact ⟨rfl, _, Eq.trans (World.drewN_drewN _ _ _) (congrArg (World.drewN _) (Nat.add_assoc _ _ _))⟩)))
        repeat (go_quiet (fail); try go_wp2)
        go_meet
        case rel => exact ⟨_, H', ⟨by have := HJ9.out; have := HJ36.out; have := HJ51.out; first | omega | exact Nat.le_refl _⟩, ⟨Zl HB⟩⟩
      · as_aux_lemma =>
       rw [if_neg c88] at H; have c88b0 : (t553 == t525) = false := beq_eq_false_iff_ne.mpr c88; have c88b1 : (t553 != t525) = true := bne_iff_ne.mpr c88; have H' := Aside0.mk H; clear H
       go_wp2_with (first | (go_at_call 14; (with_reducible refine (impl_LikeliestOrder.calls kj51 t520 t521 t549 true _ A83.out).mono ?_); rintro e w94 ⟨v551, rfl, ho0, hb⟩; have HO552 := Zj (Zv ho0 HO_7) HB; replace HO_7 := Zm (Kd.R_elder' (Zr HO_7) (Kd.R_base ho0) hb); replace HB := Zh HB hb; (try clear hb); (try clear ho0); obtain ⟨Ao95, co95, eo95⟩ := Kd.R_slice HO552.out; subst eo95) | (go_at_call 6; (with_reducible refine (impl_CountForOrder.calls kj51 t520 t521 _ _ t549 t553 true _ ?side1 ?side2 A84.out).mono ?_); (case side1 => repeat (first | exact (Kd.R_reads' HO552.out).2.2 | (with_reducible refine Kd.C_alloc ?_ _) | (with_reducible refine Kd.C_drewN ?_ _) | (with_reducible refine Kd.C_drew ?_))); (case side2 => exact (Kd.R_reads' HO552.out).2.1); rintro e w96 ⟨rfl, hb⟩; replace HO_7 := Zo HO_7 hb; replace HO552 := Zo HO552 hb; replace HB := Zh HB hb; (try clear hb); (try clear hb2); (try clear hk); (try clear hi)))
       repeat (go_quiet (fail); try go_wp2)
       go_meet
       case rel => exact ⟨_, H', ⟨by have := HJ9.out; have := HJ36.out; have := HJ51.out; first | omega | exact Nat.le_refl _⟩, ⟨Zl HB⟩⟩
    ·
     replace c86 := Bool.eq_false_iff.mpr c86
     subst c86
     rw [if_neg Bool.false_ne_true] at H
     exact absurd H (by simp)
   ·
    replace c85 := Bool.eq_false_iff.mpr c85
    subst c85
    rw [if_neg Bool.false_ne_true] at H
    exact absurd H (by simp)

end Go.Proofs.Ytabobnlpcapohaa.Q
