/- Each function below comes to the Lean function beside it (theorems '.calls'); no condition beyond each theorem's own. Written by our program oprint.py over the kit's print. -/
import Derived.Test.YtabobnlpcapohaaQwp111
namespace Go.Proofs.Ytabobnlpcapohaa.Q
open Go.RowKit Go.Proofs.YtabobnlpcapohaaW.PrintWords Go.Proofs.YtabobnlpcapohaaW.PrintLast Go.Proofs.YtabobnlpcapohaaW.PrintMore
attribute [local go_sem] max2_int min2_int max_two min_two max_three min_three max_four min_four
set_option linter.unusedVariables false
set_option linter.unusedSimpArgs false

attribute [local go_sem high] eqA30
set_option maxHeartbeats 8000000 in
set_option maxRecDepth 100000 in
def laws_FnOrdersLikely_p189 : Part3 (laws_FnOrdersLikely_p111.Q1) := by
 refine Part3.mk ?Q1 ?Q2 ?Q3 (fun hq1 hq2 hq3 => ?main)
 case main =>
  iterate 853 (intro _)
  intro k A0 c0 l0 A1 c1 l1 r w hu30 HR0 HC0 HR1 HC1 A3 t520 t521 t522 A5 t525 t527 t528 A7 t529 t530 t531 A8 t533 t534 t535 A9 _ w11 Ao12 co12 w13 w14 w15 gb532 w16 GW532 GE532 w18 gb536 w19 HO524 BK536 GW536 GE536 _ NB532_536 NB536_532 _ kj9 HJ9 _ A6 _ t537 t538 A32 t539 t540 A33 t541 t542 A34 t543 t544 A35 t547 t548 A36 HC37 nd w38 w39 w40 Ao41 co41 w42 HO_7 HO546 BK532 HB _ _ wc hcut
  (clear HC37; (try clear c1); ); obtain ⟨kq, x188_36, rfl, HA, HJ36, HO_7, HB⟩ := hcut
  cases kq with
  | zero => exact absurd HA.out (by simp [laws_FnOrdersLikely.j1])
  | succ kj36 =>
   have H := HA.out; clear HA
   simp only [laws_FnOrdersLikely.j1] at H
   by_cases c51 : x188_36 = true
   ·
    subst c51
    rw [if_pos rfl] at H
    exact absurd H (by simp)
   ·
    replace c51 := Bool.eq_false_iff.mpr c51
    subst c51
    rw [if_neg Bool.false_ne_true] at H
    have HC52 := Aside0.mk H; clear H
    go_upto_region 18 with (fail)
    repeat (go_quiet (fail); go_upto_region 18 with (fail))
    go_cut [232] (fun v232 wc => ∃ (kq : Nat) (x232_51 : Bool), v232 = .bool x232_51 ∧ Aside0 (laws_FnOrdersLikely.j2 kq l1 t520 t521 t522 t525 x232_51 = some r) ∧ Aside0 (kq ≤ kj36) ∧ Aside0 (Kd.R (Kd.int .i64) 3 wc w.heap.size (fun _ => True) (.slice Ao12 t522.length co12) t522) ∧ Aside0 (Below w.heap.size w wc))
    case first =>
     (repeat (rename World.cell? _ _ = _ => z_; clear z_)); (repeat (rename World.frozen? _ _ = _ => z_; clear z_))
     have H := HC52.out; clear HC52
     by_cases c53 : t539 > t521
     ·
      revert k A0 c0 l0 A1 c1 l1 r w hu30 HR0 HC0 HR1 HC1 A3 t520 t521 t522 A5 t525 t527 t528 A7 t529 t530 t531 A8 t533 t534 t535 A9 w11 Ao12 co12 w13 w14 w15 gb532 w16 GW532 GE532 w18 gb536 w19 HO524 BK536 GW536 GE536 NB532_536 NB536_532 kj9 HJ9 A6 t537 t538 A32 t539 t540 A33 t541 t542 A34 t543 t544 A35 t547 t548 A36 nd w38 w39 w40 Ao41 co41 w42 HO546 BK532 wc HO_7 HB kj36 HJ36 H c53; iterate 855 (rename _ => z_; revert z_)
      exact hq1.out
     ·
      revert k A0 c0 l0 A1 c1 l1 r w hu30 HR0 HC0 HR1 HC1 A3 t520 t521 t522 A5 t525 t527 t528 A7 t529 t530 t531 A8 t533 t534 t535 A9 w11 Ao12 co12 w13 w14 w15 gb532 w16 GW532 GE532 w18 gb536 w19 HO524 BK536 GW536 GE536 NB532_536 NB536_532 kj9 HJ9 A6 t537 t538 A32 t539 t540 A33 t541 t542 A34 t543 t544 A35 t547 t548 A36 nd w38 w39 w40 Ao41 co41 w42 HO546 BK532 wc HO_7 HB kj36 HJ36 H c53; iterate 855 (rename _ => z_; revert z_)
      exact hq2.out
    case rest =>
     (repeat (rename World.cell? _ _ = _ => z_; clear z_)); (repeat (rename World.frozen? _ _ = _ => z_; clear z_)); (repeat (rename @Ne Nat _ _ => z_; clear z_))
     revert k A0 c0 l0 A1 c1 l1 r w hu30 HR0 HC0 HR1 HC1 A3 t520 t521 t522 A5 t525 t527 t528 A7 t529 t530 t531 A8 t533 t534 t535 A9 w11 Ao12 co12 w13 w14 w15 gb532 w16 GW532 GE532 w18 gb536 w19 HO524 BK536 GW536 GE536 NB532_536 NB536_532 kj9 HJ9 A6 t537 t538 A32 t539 t540 A33 t541 t542 A34 t543 t544 A35 t547 t548 A36 nd w38 w39 w40 Ao41 co41 w42 HO546 BK532 HO_7 HB kj36 HJ36 HC52 wc hcut; iterate 1276 (rename _ => z_; revert z_)
     exact hq3.out

end Go.Proofs.Ytabobnlpcapohaa.Q
