/- Each function below comes to the Lean function beside it (theorems '.calls'); no condition beyond each theorem's own. Written by our program oprint.py over the kit's print. -/
import Derived.Test.YtnagcjhgojchlacQwp584

namespace Go.Proofs.Ytnagcjhgojchlac.Q
open Go.RowKit Go.Proofs.YtnagcjhgojchlacW.PrintWords Go.Proofs.YtnagcjhgojchlacW.PrintLast Go.Proofs.YtnagcjhgojchlacW.PrintMore
attribute [local go_sem] max2_int min2_int max_two min_two max_three min_three max_four min_four   -- for this text's walks alone
set_option linter.unusedVariables false
set_option linter.unusedSimpArgs false

set_option maxHeartbeats 8000000 in
set_option maxRecDepth 100000 in
theorem laws_FnRungsCompare_p825 : laws_FnRungsCompare_p584.Q2 := by
 iterate 1906 (intro _)
 intro k A0 c0 l0 A1 c1 l1 r w hu26 HR0 HC0 HR1 HC1 A3 t467 t468 t471 A5 t475 t478 A6 t479 t482 A7 t483 t486 A8 t487 t490 A9 _ nd w11 gb474 w12 GW474 GE474 Ao14 co14 Ao15 co15 w16 v476 w18 v480 w20 v484 w22 v488 HO489 HO470 HO473 HO477 HO481 HO485 _ _ kj9 HJ9 t493 t494 A34 t495 t496 A35 w38 w40 _ _ _ _ _ _ HO_6 HO_7 HO_11 HO_475001 BK474 _ kj35 HJ35 kj46 HJ46 t520 t521 A109 t525 t526 A110 t527 t528 A111 t529 t530 A112 t531 t532 A113 t533 t536 A114 t537 t540 A115 t541 t542 A116 t543 t544 A117 w119 gb524 w120 GW524 GE524 Ao122 co122 w123 w125 w127 w129 w131 v534 w133 v538 w135 w137 HO523 HO535 HO539 _ _ HO_43 HO_525001 BK524 HB kj117 HJ117 _ wc hcut
 obtain ⟨kq, HA, HJ155, HO_43, HO_525001, BK524, HB⟩ := hcut
 cases kq with
 | zero => exact absurd HA.out (by simp [laws_FnRungsCompare.j10])
 | succ kj155 =>
  have H := HA.out; clear HA
  simp only [laws_FnRungsCompare.j10] at H
  by_cases c216 : t536 = true
  ·
   subst c216
   rw [if_pos rfl] at H
   replace H := Option.bind_eq_some_iff.mp H; obtain ⟨⟨t558, t561⟩, A2170, H⟩ := H; (try dsimp only at H); have A217 := Aside0.mk A2170; clear A2170
   by_cases c218 : t561 = true
   ·
    subst c218
    rw [if_pos rfl] at H
    replace H := Option.bind_eq_some_iff.mp H; obtain ⟨t562, A2190, H⟩ := H; (try dsimp only at H); have A219 := Aside0.mk A2190; clear A2190
    by_cases c220 : t562 = true
    ·
     subst c220
     rw [if_pos rfl] at H
     exact absurd H (by simp)
    · as_aux_lemma =>
     replace c220 := Bool.eq_false_iff.mpr c220
     subst c220
     rw [if_neg Bool.false_ne_true] at H
     obtain rfl := Option.some.inj H
     have hcz221_0 : wc.cell? ⟨gb524, 0, none⟩ = some (.int .i64 t520) := (blk_cell BK524.out 0).trans rfl; have hcz221_1 : wc.cell? ⟨gb524, 1, none⟩ = some (.slice Ao122 t521.length co122) := (blk_cell BK524.out 1).trans rfl; have hfz221_0 := blk_frozen BK524.out 0; have hfz221_1 := blk_frozen BK524.out 1
     obtain ⟨Ao222, co222, eo222⟩ := Kd.R_slice HO_43.out; subst eo222
     go_wp2_with (first | ((with_reducible refine gate_callee (f := 6) rfl ?_); refine Ga (some 438) Try.func6 #[.agg #[.int .i64 t520, .slice Ao122 t521.length co122], .slice Ao222 t533.length co222] (h := ?_); (with_reducible refine (impl_SortedBy.calls kj155 t520 _ _ t521 _ _ t533 t558 true _ ?side1 ?side2 ?side3 ?side4 A217.out).mono ?_); (case side1 => repeat (first | exact (Kd.R_reads' HO_525001.out).2.2 | (with_reducible refine Kd.C_alloc ?_ _) | (with_reducible refine Kd.C_drewN ?_ _) | (with_reducible refine Kd.C_drew ?_))); (case side2 => exact (Kd.R_reads' HO_525001.out).2.1); (case side3 => repeat (first | exact (Kd.R_reads' HO_43.out).2.2 | (with_reducible refine Kd.C_alloc ?_ _) | (with_reducible refine Kd.C_drewN ?_ _) | (with_reducible refine Kd.C_drew ?_))); (case side4 => exact (Kd.R_reads' HO_43.out).2.1); rintro e w223 ⟨v559, rfl, ho0, hb⟩; refine ⟨_, rfl, ?_⟩; have HO560 := Zj (Zv (Zv ho0 HO_43) HO_525001) HB; replace HO_43 := Zm (Kd.R_elder' (Zr HO_43) (Kd.R_base ho0) hb); replace HO_525001 := Zm (Kd.R_elder' (Zr HO_525001) (Kd.R_base ho0) hb); replace BK524 := Zk BK524 hb; replace HB := Zh HB hb; (try clear hb); (try clear ho0); obtain ⟨Ao224, co224, eo224⟩ := Kd.R_slice HO560.out; subst eo224) | (go_at_call 16; (with_reducible refine (laws_kSorted.calls kj155 _ _ t558 false _ ?side1 ?side2 A219.out).mono ?_); (case side1 => repeat (first | exact (Kd.R_reads' HO560.out).2.2 | (with_reducible refine Kd.C_alloc ?_ _) | (with_reducible refine Kd.C_drewN ?_ _) | (with_reducible refine Kd.C_drew ?_))); (case side2 => exact (Kd.R_reads' HO560.out).2.1); rintro e w' ⟨rfl, ⟨nd, rfl⟩⟩))
     go_ret
     exact ⟨by first | rfl | (simp [errW_none, errW_some] <;> rfl) | (simp [*, errW_none, errW_some] <;> rfl), Zl HB⟩
   ·
    replace c218 := Bool.eq_false_iff.mpr c218
    subst c218
    rw [if_neg Bool.false_ne_true] at H
    exact absurd H (by simp)
  · as_aux_lemma =>
   replace c216 := Bool.eq_false_iff.mpr c216
   subst c216
   rw [if_neg Bool.false_ne_true] at H
   obtain rfl := Option.some.inj H
   go_wp2
   go_ret
   exact ⟨by first | rfl | (simp [errW_none, errW_some] <;> rfl) | (simp [*, errW_none, errW_some] <;> rfl), Zl HB⟩

end Go.Proofs.Ytnagcjhgojchlac.Q
