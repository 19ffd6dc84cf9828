/- Each function below comes to the Lean function beside it (theorems '.calls'); no condition beyond each theorem's own. Written by our program oprint.py over the kit's print. -/
import Derived.Test.YtabobnlpcapohaaQwp0
namespace Go.Proofs.Ytabobnlpcapohaa.Q
open Go.RowKit Go.Proofs.YtabobnlpcapohaaW.PrintWords Go.Proofs.YtabobnlpcapohaaW.PrintLast Go.Proofs.YtabobnlpcapohaaW.PrintMore
attribute [local go_sem] max2_int min2_int max_two min_two max_three min_three max_four min_four
set_option linter.unusedVariables false
set_option linter.unusedSimpArgs false

attribute [local go_sem high] eqA30
set_option maxHeartbeats 8000000 in
set_option maxRecDepth 100000 in
def laws_FnOrdersLikely_p90 : Part2 (laws_FnOrdersLikely_p0.Q1) := by
 refine Part2.mk ?Q1 ?Q2 (fun hq1 hq2 => ?main)
 case main =>
  iterate 425 (intro _)
  intro k A0 c0 l0 A1 c1 l1 r w hu30 HR0 HC0 HR1 HC1 A3 t520 t521 t522 A5 t525 t526 A6 t527 t528 A7 t529 t530 t531 A8 t533 t534 t535 A9 HC10 _ nd w11 Ao12 co12 w13 w14 w15 gb532 w16 GW532 GE532 w18 gb536 w19 HO524 BK536 GW536 GE536 HB NB532_536 NB536_532 BK532 _ _ wc hcut
  (clear HC10; (try clear c1); ); obtain ⟨kq, x125_9, rfl, HA, HJ9, HO_7, BK532, HB⟩ := hcut
  cases kq with
  | zero => exact absurd HA.out (by simp [laws_FnOrdersLikely.j0])
  | succ kj9 =>
   have H := HA.out; clear HA
   simp only [laws_FnOrdersLikely.j0] at H
   by_cases c29 : x125_9 = true
   ·
    subst c29
    rw [if_pos rfl] at H
    exact absurd H (by simp)
   ·
    replace c29 := Bool.eq_false_iff.mpr c29
    subst c29
    rw [if_neg Bool.false_ne_true] at H
    have HC30 := Aside0.mk H; clear H
    go_upto_if 126 with (fail)
    repeat (go_quiet (fail); go_upto_if 126 with (fail))
    go_cut [] (fun wc => ∃ (kq : Nat), Aside0 (laws_FnOrdersLikely.j3 kq l1 = some r) ∧ Aside0 (kq ≤ kj9) ∧ Aside0 (Below w.heap.size w wc))
    case first =>
     (repeat (rename World.cell? _ _ = _ => z_; clear z_)); (repeat (rename World.frozen? _ _ = _ => z_; clear z_))
     revert k A0 c0 l0 A1 c1 l1 r w hu30 HR0 HC0 HR1 HC1 A3 t520 t521 t522 A5 t525 t526 A6 t527 t528 A7 t529 t530 t531 A8 t533 t534 t535 A9 nd w11 Ao12 co12 w13 w14 w15 gb532 w16 GW532 GE532 w18 gb536 w19 HO524 BK536 GW536 GE536 NB532_536 NB536_532 wc HO_7 BK532 HB kj9 HJ9 HC30; iterate 426 (rename _ => z_; revert z_)
     exact hq1.out
    case rest =>
     (repeat (rename World.cell? _ _ = _ => z_; clear z_)); (repeat (rename World.frozen? _ _ = _ => z_; clear z_)); (repeat (rename @Ne Nat _ _ => z_; clear z_))
     revert k A0 c0 l0 A1 c1 l1 r w hu30 HR0 HC0 HR1 HC1 A3 t520 t521 t522 A5 t525 t526 A6 t527 t528 A7 t529 t530 t531 A8 t533 t534 t535 A9 nd w11 Ao12 co12 w13 w14 w15 gb532 w16 GW532 GE532 w18 gb536 w19 HO524 BK536 GW536 GE536 NB532_536 NB536_532 HO_7 BK532 HB kj9 HJ9 HC30 wc hcut; iterate 862 (rename _ => z_; revert z_)
     exact hq2.out

end Go.Proofs.Ytabobnlpcapohaa.Q
