/- Each function below comes to the Lean function beside it (theorems '.calls'); no condition beyond each theorem's own. Written by our program oprint.py over the kit's print. -/
import Derived.Test.YtabobnlpcapohaaQwp90
namespace Go.Proofs.Ytabobnlpcapohaa.Q
open Go.RowKit Go.Proofs.YtabobnlpcapohaaW.PrintWords Go.Proofs.YtabobnlpcapohaaW.PrintLast Go.Proofs.YtabobnlpcapohaaW.PrintMore
attribute [local go_sem] max2_int min2_int max_two min_two max_three min_three max_four min_four
set_option linter.unusedVariables false
set_option linter.unusedSimpArgs false

attribute [local go_sem high] eqA30
set_option maxHeartbeats 8000000 in
set_option maxRecDepth 100000 in
def laws_FnOrdersLikely_p111 : Part1 (laws_FnOrdersLikely_p90.Q1) := by
 refine Part1.mk ?Q1 (fun hq1 => ?main)
 case main =>
  iterate 426 (intro _)
  intro k A0 c0 l0 A1 c1 l1 r w hu30 HR0 HC0 HR1 HC1 A3 t520 t521 t522 A5 t525 t526 A6 t527 t528 A7 t529 t530 t531 A8 t533 t534 t535 A9 _ nd w11 Ao12 co12 w13 w14 w15 gb532 w16 GW532 GE532 w18 gb536 w19 HO524 BK536 GW536 GE536 _ NB532_536 NB536_532 _ wc HO_7 BK532 HB kj9 HJ9 HC30 _ _
  have H := HC30.out; clear HC30
  by_cases c31 : t526 = true
  ·
   subst c31
   rw [if_pos rfl] at H
   replace H := Option.bind_eq_some_iff.mp H; obtain ⟨⟨t537, t538⟩, A320, H⟩ := H; (try dsimp only at H); have A32 := Aside0.mk A320; clear A320; replace H := Option.bind_eq_some_iff.mp H; obtain ⟨⟨t539, t540⟩, A330, H⟩ := H; (try dsimp only at H); have A33 := Aside0.mk A330; clear A330; replace H := Option.bind_eq_some_iff.mp H; obtain ⟨⟨t541, t542⟩, A340, H⟩ := H; (try dsimp only at H); have A34 := Aside0.mk A340; clear A340; replace H := Option.bind_eq_some_iff.mp H; obtain ⟨⟨t543, t544⟩, A350, H⟩ := H; (try dsimp only at H); have A35 := Aside0.mk A350; clear A350; replace H := Option.bind_eq_some_iff.mp H; obtain ⟨⟨t547, t548⟩, A360, H⟩ := H; (try dsimp only at H); have A36 := Aside0.mk A360; clear A360; have HC37 := Aside0.mk H; clear H
   go_upto_region 16 with (first | (go_at_call 10; (with_reducible refine (impl_CountLadders.calls kj9 t520 t521 t537 t538 _ A32.out).mono ?_); rintro e w' ⟨rfl, ⟨nd, rfl⟩⟩; (try first | exact ⟨rfl, _, World.drewN_drewN _ _ _⟩ | exact ⟨rfl, _, Eq.trans (World.drewN_drewN _ _ _) (congrArg (World.drewN _) (Nat.add_assoc _ _ _))⟩)) | (go_at_call 11; (with_reducible refine (impl_InversionsOf.calls kj9 _ _ t522 t539 t540 _ ?side1 ?side2 A33.out).mono ?_); (case side1 => repeat (first | exact (Kd.R_reads' HO_7.out).2.2 | (with_reducible refine Kd.C_alloc ?_ _) | (with_reducible refine Kd.C_drewN ?_ _) | (with_reducible refine Kd.C_drew ?_))); (case side2 => exact (Kd.R_reads' HO_7.out).2.1); rintro e w38 ⟨rfl, hb⟩; replace HO_7 := Zo HO_7 hb; replace BK532 := Zk BK532 hb; replace HB := Zh HB hb; (try clear hb); (try clear hb2); (try clear hk); (try clear hi)) | (go_at_call 12; (with_reducible refine (impl_CountLeast.calls kj9 _ _ t522 t541 t542 _ ?side1 ?side2 A34.out).mono ?_); (case side1 => repeat (first | exact (Kd.R_reads' HO_7.out).2.2 | (with_reducible refine Kd.C_alloc ?_ _) | (with_reducible refine Kd.C_drewN ?_ _) | (with_reducible refine Kd.C_drew ?_))); (case side2 => exact (Kd.R_reads' HO_7.out).2.1); rintro e w39 ⟨rfl, hb⟩; replace HO_7 := Zo HO_7 hb; replace BK532 := Zk BK532 hb; replace HB := Zh HB hb; (try clear hb); (try clear hb2); (try clear hk); (try clear hi)) | (go_at_call 13; (with_reducible refine (impl_BackOrder.calls kj9 _ _ t522 t543 t544 _ ?side1 ?side2 A35.out).mono ?_); (case side1 => repeat (first | exact (Kd.R_reads' HO_7.out).2.2 | (with_reducible refine Kd.C_alloc ?_ _) | (with_reducible refine Kd.C_drewN ?_ _) | (with_reducible refine Kd.C_drew ?_))); (case side2 => exact (Kd.R_reads' HO_7.out).2.1); rintro e w40 ⟨v545, rfl, ho0, hb⟩; have HO546 := Zj (Zv ho0 HO_7) HB; replace HO_7 := Zm (Kd.R_elder' (Zr HO_7) (Kd.R_base ho0) hb); replace BK532 := Zk BK532 hb; replace HB := Zh HB hb; (try clear hb); (try clear ho0); obtain ⟨Ao41, co41, eo41⟩ := Kd.R_slice HO546.out; subst eo41) | (go_at_call 6; (with_reducible refine (impl_CountForOrder.calls kj9 t520 t521 _ _ t543 t547 t548 _ ?side1 ?side2 A36.out).mono ?_); (case side1 => repeat (first | exact (Kd.R_reads' HO546.out).2.2 | (with_reducible refine Kd.C_alloc ?_ _) | (with_reducible refine Kd.C_drewN ?_ _) | (with_reducible refine Kd.C_drew ?_))); (case side2 => exact (Kd.R_reads' HO546.out).2.1); rintro e w42 ⟨rfl, hb⟩; replace HO_7 := Zo HO_7 hb; replace HO546 := Zo HO546 hb; replace BK532 := Zk BK532 hb; replace HB := Zh HB hb; (try clear hb); (try clear hb2); (try clear hk); (try clear hi)))
   repeat (go_quiet (fail); try go_wp2)
   (try simp only [Act.put, List.setIfInBounds_toArray, List.set_cons_zero, List.set_cons_succ])
   go_cut [188] (fun v188 wc => ∃ (kq : Nat) (x188_36 : Bool), v188 = .bool x188_36 ∧ Aside0 (laws_FnOrdersLikely.j1 kq l1 t520 t521 t522 t525 t539 t541 x188_36 = some r) ∧ Aside0 (kq ≤ kj9) ∧ Aside0 (Kd.R (Kd.int .i64) 3 wc w.heap.size (fun _ => True) (.slice Ao12 t522.length co12) t522) ∧ Aside0 (Below w.heap.size w wc))
   case first => as_aux_lemma =>
    (repeat (rename World.cell? _ _ = _ => z_; clear z_)); (repeat (rename World.frozen? _ _ = _ => z_; clear z_))
    have H := HC37.out; clear HC37
    by_cases c43 : t538 = true
    ·
     subst c43
     rw [if_pos rfl] at H
     by_cases c44 : t530 = 0
     ·
      rw [if_pos c44] at H
      exact absurd H (by simp)
     ·
      rw [if_neg c44] at H; have c44b0 : (t530 == 0) = false := beq_eq_false_iff_ne.mpr c44; have c44b1 : (t530 != 0) = true := bne_iff_ne.mpr c44
      (first | rw [c44b0] | (simp only [i64_w, i32_w]; rw [c44b0]) | skip)
      by_cases c45 : (wrap64 (t529 * (wrap64 (Int.tdiv t537 t530)))) = t525
      ·
       rw [if_pos c45] at H; have c45b0 : ((wrap64 (t529 * (wrap64 (Int.tdiv t537 t530)))) == t525) = true := beq_iff_eq.mpr c45; have c45b1 : ((wrap64 (t529 * (wrap64 (Int.tdiv t537 t530)))) != t525) = false := bne_eq_false_iff_eq.mpr c45; clear c45
       by_cases c46 : t540 = true
       ·
        subst c46
        rw [if_pos rfl] at H
        by_cases c47 : t542 = true
        ·
         subst c47
         rw [if_pos rfl] at H
         by_cases c48 : t544 = true
         ·
          subst c48
          rw [if_pos rfl] at H
          by_cases c49 : t548 = true
          · as_aux_lemma =>
           subst c49
           rw [if_pos rfl] at H
           have H' := Aside0.mk H; clear H; have hcz50_0 : w42.cell? ⟨gb532, 0, none⟩ = some (.int .i64 t529) := (blk_cell BK532.out 0).trans rfl; have hcz50_1 : w42.cell? ⟨gb532, 1, none⟩ = some (.int .i64 t530) := (blk_cell BK532.out 1).trans rfl; have hfz50_0 := blk_frozen BK532.out 0; have hfz50_1 := blk_frozen BK532.out 1
           go_wp2
           repeat (go_quiet (fail); try go_wp2)
           go_meet
           case rel => exact ⟨_, ((t547 != t525)), (by first | rfl | (simp; done) | (simp [*]; done)), H', ⟨by have := HJ9.out; first | omega | exact Nat.le_refl _⟩, ⟨Zc HO_7⟩, ⟨Zl HB⟩⟩
          ·
           replace c49 := Bool.eq_false_iff.mpr c49
           subst c49
           rw [if_neg Bool.false_ne_true] at H
           exact absurd H (by simp)
         ·
          replace c48 := Bool.eq_false_iff.mpr c48
          subst c48
          rw [if_neg Bool.false_ne_true] at H
          exact absurd H (by simp)
        ·
         replace c47 := Bool.eq_false_iff.mpr c47
         subst c47
         rw [if_neg Bool.false_ne_true] at H
         exact absurd H (by simp)
       ·
        replace c46 := Bool.eq_false_iff.mpr c46
        subst c46
        rw [if_neg Bool.false_ne_true] at H
        exact absurd H (by simp)
      ·
       rw [if_neg c45] at H
       exact absurd H (by simp)
    ·
     replace c43 := Bool.eq_false_iff.mpr c43
     subst c43
     rw [if_neg Bool.false_ne_true] at H
     exact absurd H (by simp)
   case rest =>
    (repeat (rename World.cell? _ _ = _ => z_; clear z_)); (repeat (rename World.frozen? _ _ = _ => z_; clear z_)); (repeat (rename @Ne Nat _ _ => z_; clear z_))
    revert k A0 c0 l0 A1 c1 l1 r w hu30 HR0 HC0 HR1 HC1 A3 t520 t521 t522 A5 t525 t527 t528 A7 t529 t530 t531 A8 t533 t534 t535 A9 w11 Ao12 co12 w13 w14 w15 gb532 w16 GW532 GE532 w18 gb536 w19 HO524 BK536 GW536 GE536 NB532_536 NB536_532 kj9 HJ9 A6 t537 t538 A32 t539 t540 A33 t541 t542 A34 t543 t544 A35 t547 t548 A36 HC37 nd w38 w39 w40 Ao41 co41 w42 HO_7 HO546 BK532 HB wc hcut; iterate 853 (rename _ => z_; revert z_)
    exact hq1.out
  · as_aux_lemma =>
   replace c31 := Bool.eq_false_iff.mpr c31
   subst c31
   rw [if_neg Bool.false_ne_true] at H
   have H' := Aside0.mk H; clear H
   go_wp2
   repeat (go_quiet (fail); try go_wp2)
   go_meet
   case rel => exact ⟨_, H', ⟨by have := HJ9.out; first | omega | exact Nat.le_refl _⟩, ⟨Zl HB⟩⟩

end Go.Proofs.Ytabobnlpcapohaa.Q
