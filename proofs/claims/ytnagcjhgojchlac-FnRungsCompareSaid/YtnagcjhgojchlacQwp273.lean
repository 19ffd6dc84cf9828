/- Each function below comes to the Lean function beside it (theorems '.calls'); no condition beyond each theorem's own. Written by our program oprint.py over the kit's print. -/
import Derived.Test.YtnagcjhgojchlacQwp152

namespace Go.Proofs.Ytnagcjhgojchlac.Q
open Go.RowKit Go.Proofs.YtnagcjhgojchlacW.PrintWords Go.Proofs.YtnagcjhgojchlacW.PrintLast Go.Proofs.YtnagcjhgojchlacW.PrintMore
attribute [local go_sem] max2_int min2_int max_two min_two max_three min_three max_four min_four   -- for this text's walks alone
set_option linter.unusedVariables false
set_option linter.unusedSimpArgs false

set_option maxHeartbeats 8000000 in
set_option maxRecDepth 100000 in
def laws_FnRungsCompare_p273 : Part1 (laws_FnRungsCompare_p152.Q2) := by
 refine Part1.mk ?Q1 (fun hq1 => ?main)
 case main =>
  iterate 1129 (intro _)
  intro k A0 c0 l0 A1 c1 l1 r w hu26 HR0 HC0 HR1 HC1 A3 t467 t468 t471 A5 t475 t479 t482 A7 t483 t486 A8 t487 t490 A9 _ nd w11 gb474 w12 GW474 GE474 Ao14 co14 Ao15 co15 w16 v476 w18 v480 w20 v484 w22 v488 HO489 HO470 HO473 HO477 HO481 HO485 _ _ kj9 HJ9 t493 t494 A34 t495 t496 A35 w38 w40 _ _ _ _ _ _ kj35 HJ35 _ A6 _ t498 t501 A49 t502 t503 t506 A50 t508 t511 A51 HC52 w54 v499 w56 gb507 w57 GW507 GE507 NB474_507 NB507_474 Ao60 co60 w61 v509 HO510 HO_6 HO_7 HO_11 HO_475001 HO500 HO505 BK474 BK507 HB _ _ wc hcut
  (clear HC52; (try clear c1); ); obtain ⟨kq, x201_51, rfl, HA, HJ51, HO_6, HO_7, HO_11, HO_19, HB⟩ := hcut
  cases kq with
  | zero => exact absurd HA.out (by simp [laws_FnRungsCompare.j2])
  | succ kj51 =>
   have H := HA.out; clear HA
   simp only [laws_FnRungsCompare.j2] at H
   by_cases c88 : x201_51 = true
   ·
    subst c88
    rw [if_pos rfl] at H
    exact absurd H (by simp)
   ·
    replace c88 := Bool.eq_false_iff.mpr c88
    subst c88
    rw [if_neg Bool.false_ne_true] at H
    have H' := Aside0.mk H; clear H; obtain ⟨Ao89, co89, eo89⟩ := Kd.R_slice HO_11.out; subst eo89
    go_wp2
    go_loopg [204] kj51 (fun kq v204 w' => ∃ (x204_4 : Int), v204 = .int .i64 x204_4 ∧ Aside0 (laws_FnRungsCompare.l0 kq l1 t471 t475 t498 t483 (t483.length : Int) x204_4 = some r) ∧ Aside0 (kq ≤ kj51) ∧ Aside0 (Kd.R (Kd.int .i64) 3 w' w.heap.size (fun k_ => Zn k_ v476 ∧ Zn k_ v499 ∧ Zn k_ (.slice Ao89 t483.length co89)) (.slice Ao15 t471.length co15) t471) ∧ Aside0 (Kd.R (Kd.int .i64) 3 w' w.heap.size (fun k_ => Zn k_ (.slice Ao15 t471.length co15) ∧ Zn k_ v499 ∧ Zn k_ (.slice Ao89 t483.length co89)) v476 t475) ∧ Aside0 (Kd.R (Kd.int .i64) 3 w' w.heap.size (fun k_ => Zn k_ (.slice Ao15 t471.length co15) ∧ Zn k_ v476 ∧ Zn k_ (.slice Ao89 t483.length co89)) v499 t498) ∧ Aside0 (Kd.R (Kd.int .i64) 3 w' w.heap.size (fun k_ => Zn k_ (.slice Ao15 t471.length co15) ∧ Zn k_ v476 ∧ Zn k_ v499) (.slice Ao89 t483.length co89) t483) ∧ Aside0 (Below w.heap.size w w'))
    case atStart => exact ⟨(0), (by first | rfl | (simp; done) | (simp [*]; done)), H', ⟨Nat.le_refl _⟩, ⟨Zc HO_6⟩, ⟨Zc HO_7⟩, ⟨Zr HO_19⟩, ⟨Zr HO_11⟩, ⟨Zl HB⟩⟩
    case round =>
     (repeat (rename World.cell? _ _ = _ => z_; clear z_)); (repeat (rename World.frozen? _ _ = _ => z_; clear z_)); (repeat (rename @Ne Nat _ _ => z_; clear z_))
     (clear H'; (try clear c1); (try clear c2); (try clear p2); (try clear c3); (try clear c4); (try clear c5); (try clear c6); (try clear p6); (try clear c7); (try clear c8); (try clear c9); (try clear c11); (try clear c12); (try clear c14); (try clear c15); (try clear c23); (try clear c23b0); (try clear c23b1); (try clear c23b2); (try clear c25); (try clear c26); (try clear c26b0); (try clear c26b1); (try clear c26b2); (try clear c28); (try clear c33); (try clear c41); (try clear c41b0); (try clear c41b1); (try clear c41b2); (try clear c42); (try clear c42b0); (try clear c42b1); (try clear c42b2); (try clear c46); (try clear c48); (try clear c58); (try clear c62); (try clear c62b0); (try clear c62b1); (try clear c62b2); (try clear c63); (try clear p64); (try clear c65); (try clear c66); (try clear c67); (try clear c68); (try clear c70); (try clear c73); (try clear c77); (try clear c78); (try clear c79); (try clear c81); (try clear c84); (try clear c88); (try clear hcz13_0); (try clear hcz13_1); (try clear hcz17_0); (try clear hcz17_1); (try clear hcz19_0); (try clear hcz19_1); (try clear hcz21_0); (try clear hcz21_1); (try clear hcz37_0); (try clear hcz37_1); (try clear hcz39_0); (try clear hcz39_1); (try clear hcz44_0); (try clear hcz44_1); (try clear hcz53_0); (try clear hcz53_1); (try clear hcz55_0); (try clear hcz55_1); (try clear hcz59_0); (try clear hcz59_1); (try clear hcz74_0); (try clear hcz74_1); (try clear hcz76_0); (try clear hcz76_1); (try clear hcz85_0); (try clear hcz85_1); (try clear hcz87_0); (try clear hcz87_1); (try clear hfz13_0); (try clear hfz13_1); (try clear hfz17_0); (try clear hfz17_1); (try clear hfz19_0); (try clear hfz19_1); (try clear hfz21_0); (try clear hfz21_1); (try clear hfz37_0); (try clear hfz37_1); (try clear hfz39_0); (try clear hfz39_1); (try clear hfz44_0); (try clear hfz44_1); (try clear hfz53_0); (try clear hfz53_1); (try clear hfz55_0); (try clear hfz55_1); (try clear hfz59_0); (try clear hfz59_1); (try clear hfz74_0); (try clear hfz74_1); (try clear hfz76_0); (try clear hfz76_1); (try clear hfz85_0); (try clear hfz85_1); (try clear hfz87_0); (try clear hfz87_1); (try clear p2); (try clear p6); (try clear p64)); obtain ⟨x204_4, rfl, HA, HK4, HO_6, HO_7, HO_19, HO_202, HB⟩ := hrel
     cases gk with
     | zero => exact absurd HA.out (by simp [laws_FnRungsCompare.l0])
     | succ k4 =>
      have H := HA.out; clear HA
      simp only [laws_FnRungsCompare.l0] at H
      by_cases c90 : x204_4 < (t483.length : Int)
      ·
       rw [if_pos c90] at H; have c90b0 : decide (x204_4 < (t483.length : Int)) = true := decide_eq_true c90; clear c90
       by_cases c91 : 0 ≤ x204_4
       ·
        rw [if_pos c91] at H; have c91b0 : decide (0 ≤ x204_4) = true := decide_eq_true c91; clear c91
        by_cases c92 : x204_4 < (t483.length : Int)
        ·
         rw [if_pos c92] at H; have c92b0 : decide (x204_4 < (t483.length : Int)) = true := decide_eq_true c92; clear c92; replace H := Option.bind_eq_some_iff.mp H; obtain ⟨t516, A930, H⟩ := H; (try dsimp only at H); have A93 := Aside0.mk A930; clear A930
         by_cases c94 : t516 = true
         ·
          subst c94
          rw [if_pos rfl] at H
          exact absurd H (by simp)
         · as_aux_lemma =>
          replace c94 := Bool.eq_false_iff.mpr c94
          subst c94
          rw [if_neg Bool.false_ne_true] at H
          have H' := Aside0.mk H; clear H; have p515 : 0 ≤ (x204_4 : Int) := of_decide_eq_true (by first | (with_reducible assumption) | assumption); have q515 : x204_4 < (t483.length : Int) := of_decide_eq_true (by first | (with_reducible assumption) | assumption); obtain ⟨ad515, e515, hx515_0⟩ := Kd.at_int (Kd.R_reads' HO_202.out).2.2 x204_4 p515 q515
          cases e515
          replace p515 := eq_true p515
          replace q515 := eq_true q515
          obtain ⟨Ao95, co95, eo95⟩ := Kd.R_slice HO_19.out; subst eo95
          go_wp2_with (first | ((with_reducible refine gate_callee (f := 17) rfl ?_); refine Ga (some 210) Try.func17 #[.slice Ao95 t498.length co95, .int .i64 (rd t483 x204_4)] (h := ?_); (with_reducible refine (laws_kHas.calls k4 _ _ t498 (rd t483 x204_4) false _ ?side1 ?side2 A93.out).mono ?_); (case side1 => repeat (first | exact (Kd.R_reads' HO_19.out).2.2 | (with_reducible refine Kd.C_alloc ?_ _) | (with_reducible refine Kd.C_drewN ?_ _) | (with_reducible refine Kd.C_drew ?_))); (case side2 => exact (Kd.R_reads' HO_19.out).2.1); rintro e w' ⟨rfl, ⟨nd, rfl⟩⟩; refine ⟨_, rfl, ?_⟩))
          go_roundg k4
          case measure => have := HJ9.out; have := HJ35.out; have := HJ51.out; have := HK4.out; omega
          case rel => exact ⟨(wrap64 (x204_4 + 1)), (by first | rfl | (simp; done) | (simp [*]; done)), H', ⟨by have := HJ9.out; have := HJ35.out; have := HJ51.out; have := HK4.out; omega⟩, ⟨Zr HO_6⟩, ⟨Zr HO_7⟩, ⟨Zr HO_19⟩, ⟨Zr HO_202⟩, ⟨Zl HB⟩⟩
        ·
         rw [if_neg c92] at H
         exact absurd H (by simp)
       ·
        rw [if_neg c91] at H
        exact absurd H (by simp)
      ·
       rw [if_neg c90] at H; have c90b0 : decide (x204_4 < (t483.length : Int)) = false := decide_eq_false c90; clear c90; have H' := Aside0.mk H; clear H
       go_wp2
       go_loopg [214] k4 (fun kq v214 w' => ∃ (x214_5 : Int), v214 = .int .i64 x214_5 ∧ Aside0 (laws_FnRungsCompare.l1 kq l1 t471 t475 t471 (t471.length : Int) x214_5 = some r) ∧ Aside0 (kq ≤ k4) ∧ Aside0 (Kd.R (Kd.int .i64) 3 w' w.heap.size (fun k_ => Zn k_ v476) (.slice Ao15 t471.length co15) t471) ∧ Aside0 (Kd.R (Kd.int .i64) 3 w' w.heap.size (fun k_ => Zn k_ (.slice Ao15 t471.length co15) ∧ Zn k_ (.slice Ao15 t471.length co15)) v476 t475) ∧ Aside0 (Kd.R (Kd.int .i64) 3 w' w.heap.size (fun k_ => Zn k_ v476) (.slice Ao15 t471.length co15) t471) ∧ Aside0 (Below w.heap.size w w'))
       case atStart => exact ⟨(0), (by first | rfl | (simp; done) | (simp [*]; done)), H', ⟨Nat.le_refl _⟩, ⟨Zc HO_6⟩, ⟨Zc HO_7⟩, ⟨Zc HO_6⟩, ⟨Zl HB⟩⟩
       case round =>
        (repeat (rename World.cell? _ _ = _ => z_; clear z_)); (repeat (rename World.frozen? _ _ = _ => z_; clear z_)); (repeat (rename @Ne Nat _ _ => z_; clear z_))
        revert k A0 c0 l0 A1 c1 l1 r w hu26 HR0 HC0 HR1 HC1 A3 t467 t468 t471 A5 t475 t479 t482 A7 t483 t486 A8 t487 t490 A9 nd w11 gb474 w12 GW474 GE474 Ao14 co14 Ao15 co15 w16 v476 w18 v480 w20 w22 v488 kj9 HJ9 t493 t494 A34 t495 t496 A35 w38 w40 kj35 HJ35 A6 t498 t501 A49 t502 t503 t506 A50 t508 t511 A51 w54 v499 w56 gb507 w57 GW507 GE507 NB474_507 NB507_474 Ao60 co60 w61 v509 BK474 BK507 wc kj51 HJ51 Ao89 co89 HO489 HO470 HO473 HO477 HO481 HO485 HO510 HO_475001 HO500 HO505 HO_11 x204_4 HO_6 HO_7 HO_19 HO_202 HB k4 HK4 c90b0 H' gk wr hrel; iterate 1178 (rename _ => z_; revert z_)
        exact hq1.out

end Go.Proofs.Ytnagcjhgojchlac.Q
