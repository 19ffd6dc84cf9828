/- Each function below comes to the Lean function beside it (theorems '.calls'); no condition beyond each theorem's own. Written by our program oprint.py over the kit's print. -/
import Derived.Test.YtnagcjhgojchlacQwp273

namespace Go.Proofs.Ytnagcjhgojchlac.Q
open Go.RowKit Go.Proofs.YtnagcjhgojchlacW.PrintWords Go.Proofs.YtnagcjhgojchlacW.PrintLast Go.Proofs.YtnagcjhgojchlacW.PrintMore
attribute [local go_sem] max2_int min2_int max_two min_two max_three min_three max_four min_four   -- for this text's walks alone
set_option linter.unusedVariables false
set_option linter.unusedSimpArgs false

set_option maxHeartbeats 8000000 in
set_option maxRecDepth 100000 in
theorem laws_FnRungsCompare_p340 : laws_FnRungsCompare_p273.Q1 := by
 iterate 1178 (intro _)
 intro k A0 c0 l0 A1 c1 l1 r w hu26 HR0 HC0 HR1 HC1 A3 t467 t468 t471 A5 t475 t479 t482 A7 t483 t486 A8 t487 t490 A9 _ nd w11 gb474 w12 GW474 GE474 Ao14 co14 Ao15 co15 w16 v476 w18 v480 w20 w22 v488 _ _ kj9 HJ9 t493 t494 A34 t495 t496 A35 w38 w40 _ _ kj35 HJ35 _ A6 t498 t501 A49 t502 t503 t506 A50 t508 t511 A51 w54 v499 w56 gb507 w57 GW507 GE507 NB474_507 NB507_474 Ao60 co60 w61 v509 BK474 BK507 _ wc _ kj51 HJ51 Ao89 co89 HO489 HO470 HO473 HO477 HO481 HO485 _ _ _ _ _ HO510 _ _ _ HO_475001 HO500 HO505 _ _ HO_11 _ _ x204_4 HO_6 HO_7 HO_19 HO_202 HB k4 _ HK4 c90b0 H' _ gk wr hrel _ _
 (clear H'; (try clear c1); (try clear c90b0); ); obtain ⟨x214_5, rfl, HA, HK5, HO_6, HO_7, HO_212, HB⟩ := hrel
 cases gk with
 | zero => exact absurd HA.out (by simp [laws_FnRungsCompare.l1])
 | succ k5 =>
  have H := HA.out; clear HA
  simp only [laws_FnRungsCompare.l1] at H
  by_cases c96 : x214_5 < (t471.length : Int)
  ·
   rw [if_pos c96] at H; have c96b0 : decide (x214_5 < (t471.length : Int)) = true := decide_eq_true c96; clear c96
   by_cases c97 : 0 ≤ x214_5
   ·
    rw [if_pos c97] at H; have c97b0 : decide (0 ≤ x214_5) = true := decide_eq_true c97; clear c97
    by_cases c98 : x214_5 < (t471.length : Int)
    ·
     rw [if_pos c98] at H; have c98b0 : decide (x214_5 < (t471.length : Int)) = true := decide_eq_true c98; clear c98; have H' := Aside0.mk H; clear H; have p517 : 0 ≤ (x214_5 : Int) := of_decide_eq_true (by first | (with_reducible assumption) | assumption); have q517 : x214_5 < (t471.length : Int) := of_decide_eq_true (by first | (with_reducible assumption) | assumption); obtain ⟨ad517, e517, hx517_0⟩ := Kd.at_int (Kd.R_reads' HO_212.out).2.2 x214_5 p517 q517
     cases e517
     replace p517 := eq_true p517
     replace q517 := eq_true q517
     go_wp2
     go_loopg [29, 220] k5 (fun kq v29 v220 w' => ∃ (x29_6 : Int) (x220_6 : Int), v29 = .int .i64 x29_6 ∧ v220 = .int .i64 x220_6 ∧ Aside0 (laws_FnRungsCompare.l2 kq l1 t471 t475 (rd t471 x214_5) x29_6 t471 (t471.length : Int) x214_5 t471 (t471.length : Int) x220_6 = some r) ∧ Aside0 (kq ≤ k5) ∧ Aside0 (Kd.R (Kd.int .i64) 3 w' w.heap.size (fun k_ => Zn k_ v476) (.slice (some ad517) t471.length co15) t471) ∧ Aside0 (Kd.R (Kd.int .i64) 3 w' w.heap.size (fun k_ => some k_ ≠ ((.slice (some ad517) t471.length co15) : Value).ownBlock ∧ some k_ ≠ ((.slice (some ad517) t471.length co15) : Value).ownBlock ∧ some k_ ≠ ((.slice (some ad517) t471.length co15) : Value).ownBlock) v476 t475) ∧ Aside0 (Kd.R (Kd.int .i64) 3 w' w.heap.size (fun k_ => Zn k_ v476) (.slice (some ad517) t471.length co15) t471) ∧ Aside0 (Kd.R (Kd.int .i64) 3 w' w.heap.size (fun k_ => Zn k_ v476) (.slice (some ad517) t471.length co15) t471) ∧ Aside0 (Below w.heap.size w w'))
     case atStart => exact ⟨(0), (0), (by first | rfl | (simp; done) | (simp [*]; done)), (by first | rfl | (simp; done) | (simp [*]; done)), H', ⟨Nat.le_refl _⟩, ⟨Zr HO_6⟩, ⟨Zc HO_7⟩, ⟨Zr HO_212⟩, ⟨Zr HO_6⟩, ⟨Zl HB⟩⟩
     case round => as_aux_lemma =>
      (repeat (rename World.cell? _ _ = _ => z_; clear z_)); (repeat (rename World.frozen? _ _ = _ => z_; clear z_)); (repeat (rename @Ne Nat _ _ => z_; clear z_))
      (clear H'; (try clear c1); (try clear c2); (try clear p2); (try clear c3); (try clear c4); (try clear c5); (try clear p5); (try clear q5); (try clear hx5); (try clear c6); (try clear p6); (try clear c7); (try clear c8); (try clear c9); (try clear c11); (try clear c12); (try clear c14); (try clear c15); (try clear c17); (try clear c23); (try clear c23b0); (try clear c23b1); (try clear c23b2); (try clear c25); (try clear c26); (try clear c26b0); (try clear c26b1); (try clear c26b2); (try clear c28); (try clear c33); (try clear c41); (try clear c41b0); (try clear c41b1); (try clear c41b2); (try clear c42); (try clear c42b0); (try clear c42b1); (try clear c42b2); (try clear c46); (try clear c48); (try clear p51); (try clear q51); (try clear hx51); (try clear c58); (try clear c62); (try clear c62b0); (try clear c62b1); (try clear c62b2); (try clear c63); (try clear p64); (try clear c65); (try clear c66); (try clear c67); (try clear c68); (try clear c70); (try clear c73); (try clear c77); (try clear c78); (try clear c79); (try clear c81); (try clear c84); (try clear c88); (try clear c90); (try clear c90b0); (try clear c91); (try clear c91b0); (try clear c92); (try clear c92b0); (try clear c94); (try clear c96); (try clear c96b0); (try clear c97); (try clear c97b0); (try clear c98); (try clear c98b0); (try clear hcz13_0); (try clear hcz13_1); (try clear hcz17_0); (try clear hcz17_1); (try clear hcz19_0); (try clear hcz19_1); (try clear hcz21_0); (try clear hcz21_1); (try clear hcz37_0); (try clear hcz37_1); (try clear hcz39_0); (try clear hcz39_1); (try clear hcz44_0); (try clear hcz44_1); (try clear hcz53_0); (try clear hcz53_1); (try clear hcz55_0); (try clear hcz55_1); (try clear hcz59_0); (try clear hcz59_1); (try clear hcz74_0); (try clear hcz74_1); (try clear hcz76_0); (try clear hcz76_1); (try clear hcz85_0); (try clear hcz85_1); (try clear hcz87_0); (try clear hcz87_1); (try clear hfz13_0); (try clear hfz13_1); (try clear hfz17_0); (try clear hfz17_1); (try clear hfz19_0); (try clear hfz19_1); (try clear hfz21_0); (try clear hfz21_1); (try clear hfz37_0); (try clear hfz37_1); (try clear hfz39_0); (try clear hfz39_1); (try clear hfz44_0); (try clear hfz44_1); (try clear hfz53_0); (try clear hfz53_1); (try clear hfz55_0); (try clear hfz55_1); (try clear hfz59_0); (try clear hfz59_1); (try clear hfz74_0); (try clear hfz74_1); (try clear hfz76_0); (try clear hfz76_1); (try clear hfz85_0); (try clear hfz85_1); (try clear hfz87_0); (try clear hfz87_1); (try clear hx515_0); (try clear hx517_0); (try clear p2); (try clear p5); (try clear p51); (try clear p515); (try clear p517); (try clear p6); (try clear p64); (try clear q5); (try clear q51); (try clear q515); (try clear q517)); obtain ⟨x29_6, x220_6, rfl, rfl, HA, HK6, HO_6, HO_7, HO_212, HO_218, HB⟩ := hrel
      cases gk with
      | zero => exact absurd HA.out (by simp [laws_FnRungsCompare.l2])
      | succ k6 =>
       have H := HA.out; clear HA
       simp only [laws_FnRungsCompare.l2] at H
       by_cases c99 : x220_6 < (t471.length : Int)
       ·
        rw [if_pos c99] at H; have c99b0 : decide (x220_6 < (t471.length : Int)) = true := decide_eq_true c99; clear c99
        by_cases c100 : 0 ≤ x220_6
        ·
         rw [if_pos c100] at H; have c100b0 : decide (0 ≤ x220_6) = true := decide_eq_true c100; clear c100
         by_cases c101 : x220_6 < (t471.length : Int)
         ·
          rw [if_pos c101] at H; have c101b0 : decide (x220_6 < (t471.length : Int)) = true := decide_eq_true c101; clear c101
          by_cases c102 : (rd t471 x220_6) = (rd t471 x214_5)
          · as_aux_lemma =>
           rw [if_pos c102] at H; have c102b0 : ((rd t471 x220_6) == (rd t471 x214_5)) = true := beq_iff_eq.mpr c102; have c102b1 : ((rd t471 x220_6) != (rd t471 x214_5)) = false := bne_eq_false_iff_eq.mpr c102; clear c102; have H' := Aside0.mk H; clear H; have p518 : 0 ≤ (x220_6 : Int) := of_decide_eq_true (by first | (with_reducible assumption) | assumption); have q518 : x220_6 < (t471.length : Int) := of_decide_eq_true (by first | (with_reducible assumption) | assumption); obtain ⟨ad518, e518, hx518_0⟩ := Kd.at_int (Kd.R_reads' HO_218.out).2.2 x220_6 p518 q518; obtain rfl : ad517 = ad518 := (by injection e518)
           replace p518 := eq_true p518
           replace q518 := eq_true q518
           go_wp2
           go_roundg k6
           case measure => have := HJ9.out; have := HJ35.out; have := HJ51.out; have := HK4.out; have := HK5.out; have := HK6.out; omega
           case rel => exact ⟨(wrap64 (x29_6 + 1)), (wrap64 (x220_6 + 1)), (by first | rfl | (simp; done) | (simp [*]; done)), (by first | rfl | (simp; done) | (simp [*]; done)), H', ⟨by have := HJ9.out; have := HJ35.out; have := HJ51.out; have := HK4.out; have := HK5.out; have := HK6.out; omega⟩, ⟨Zr HO_6⟩, ⟨Zr HO_7⟩, ⟨Zr HO_212⟩, ⟨Zr HO_218⟩, ⟨Zl HB⟩⟩
          · as_aux_lemma =>
           rw [if_neg c102] at H; have c102b0 : ((rd t471 x220_6) == (rd t471 x214_5)) = false := beq_eq_false_iff_ne.mpr c102; have c102b1 : ((rd t471 x220_6) != (rd t471 x214_5)) = true := bne_iff_ne.mpr c102; have H' := Aside0.mk H; clear H; have p518 : 0 ≤ (x220_6 : Int) := of_decide_eq_true (by first | (with_reducible assumption) | assumption); have q518 : x220_6 < (t471.length : Int) := of_decide_eq_true (by first | (with_reducible assumption) | assumption); obtain ⟨ad518, e518, hx518_0⟩ := Kd.at_int (Kd.R_reads' HO_218.out).2.2 x220_6 p518 q518; obtain rfl : ad517 = ad518 := (by injection e518)
           replace p518 := eq_true p518
           replace q518 := eq_true q518
           go_wp2
           go_roundg k6
           case measure => have := HJ9.out; have := HJ35.out; have := HJ51.out; have := HK4.out; have := HK5.out; have := HK6.out; omega
           case rel => exact ⟨(x29_6), (wrap64 (x220_6 + 1)), (by first | rfl | (simp; done) | (simp [*]; done)), (by first | rfl | (simp; done) | (simp [*]; done)), H', ⟨by have := HJ9.out; have := HJ35.out; have := HJ51.out; have := HK4.out; have := HK5.out; have := HK6.out; omega⟩, ⟨Zr HO_6⟩, ⟨Zr HO_7⟩, ⟨Zr HO_212⟩, ⟨Zr HO_218⟩, ⟨Zl HB⟩⟩
         ·
          rw [if_neg c101] at H
          exact absurd H (by simp)
        ·
         rw [if_neg c100] at H
         exact absurd H (by simp)
       ·
        rw [if_neg c99] at H; have c99b0 : decide (x220_6 < (t471.length : Int)) = false := decide_eq_false c99; clear c99; have H' := Aside0.mk H; clear H; obtain ⟨Ao103, co103, eo103⟩ := Kd.R_slice HO_7.out; subst eo103
        go_wp2
        go_loopg [29, 232] k6 (fun kq v29 v232 w' => ∃ (x29_7 : Int) (x232_7 : Int), v29 = .int .i64 x29_7 ∧ v232 = .int .i64 x232_7 ∧ Aside0 (laws_FnRungsCompare.l3 kq l1 t471 t475 (rd t471 x214_5) x29_7 t471 (t471.length : Int) x214_5 t475 (t475.length : Int) x232_7 = some r) ∧ Aside0 (kq ≤ k6) ∧ Aside0 (Kd.R (Kd.int .i64) 3 w' w.heap.size (fun k_ => Zn k_ (.slice Ao103 t475.length co103) ∧ Zn k_ (.slice Ao103 t475.length co103)) (.slice (some ad517) t471.length co15) t471) ∧ Aside0 (Kd.R (Kd.int .i64) 3 w' w.heap.size (fun k_ => some k_ ≠ ((.slice (some ad517) t471.length co15) : Value).ownBlock ∧ some k_ ≠ ((.slice (some ad517) t471.length co15) : Value).ownBlock) (.slice Ao103 t475.length co103) t475) ∧ Aside0 (Kd.R (Kd.int .i64) 3 w' w.heap.size (fun k_ => Zn k_ (.slice Ao103 t475.length co103) ∧ Zn k_ (.slice Ao103 t475.length co103)) (.slice (some ad517) t471.length co15) t471) ∧ Aside0 (Kd.R (Kd.int .i64) 3 w' w.heap.size (fun k_ => some k_ ≠ ((.slice (some ad517) t471.length co15) : Value).ownBlock ∧ some k_ ≠ ((.slice (some ad517) t471.length co15) : Value).ownBlock) (.slice Ao103 t475.length co103) t475) ∧ Aside0 (Below w.heap.size w w'))
        case atStart => exact ⟨(x29_6), (0), (by first | rfl | (simp; done) | (simp [*]; done)), (by first | rfl | (simp; done) | (simp [*]; done)), H', ⟨Nat.le_refl _⟩, ⟨Zc HO_6⟩, ⟨Zc HO_7⟩, ⟨Zc HO_212⟩, ⟨Zc HO_7⟩, ⟨Zl HB⟩⟩
        case round => as_aux_lemma =>
         (repeat (rename World.cell? _ _ = _ => z_; clear z_)); (repeat (rename World.frozen? _ _ = _ => z_; clear z_)); (repeat (rename @Ne Nat _ _ => z_; clear z_))
         (clear H'; (try clear c1); (try clear c2); (try clear p2); (try clear c3); (try clear c4); (try clear c5); (try clear p5); (try clear q5); (try clear hx5); (try clear c6); (try clear p6); (try clear c7); (try clear c8); (try clear c9); (try clear c10); (try clear c11); (try clear c12); (try clear c14); (try clear c15); (try clear c17); (try clear c23); (try clear c23b0); (try clear c23b1); (try clear c23b2); (try clear c25); (try clear c26); (try clear c26b0); (try clear c26b1); (try clear c26b2); (try clear c28); (try clear c33); (try clear c41); (try clear c41b0); (try clear c41b1); (try clear c41b2); (try clear c42); (try clear c42b0); (try clear c42b1); (try clear c42b2); (try clear c46); (try clear c48); (try clear p51); (try clear q51); (try clear hx51); (try clear c58); (try clear c62); (try clear c62b0); (try clear c62b1); (try clear c62b2); (try clear c63); (try clear p64); (try clear c65); (try clear c66); (try clear c67); (try clear c68); (try clear c70); (try clear c73); (try clear c77); (try clear c78); (try clear c79); (try clear c81); (try clear c84); (try clear c88); (try clear c90); (try clear c90b0); (try clear c91); (try clear c91b0); (try clear c92); (try clear c92b0); (try clear c94); (try clear c96); (try clear c96b0); (try clear c97); (try clear c97b0); (try clear c98); (try clear c98b0); (try clear c99); (try clear c99b0); (try clear c100); (try clear c100b0); (try clear c101); (try clear c101b0); (try clear c102); (try clear c102b0); (try clear c102b1); (try clear hcz13_0); (try clear hcz13_1); (try clear hcz17_0); (try clear hcz17_1); (try clear hcz19_0); (try clear hcz19_1); (try clear hcz21_0); (try clear hcz21_1); (try clear hcz37_0); (try clear hcz37_1); (try clear hcz39_0); (try clear hcz39_1); (try clear hcz44_0); (try clear hcz44_1); (try clear hcz53_0); (try clear hcz53_1); (try clear hcz55_0); (try clear hcz55_1); (try clear hcz59_0); (try clear hcz59_1); (try clear hcz74_0); (try clear hcz74_1); (try clear hcz76_0); (try clear hcz76_1); (try clear hcz85_0); (try clear hcz85_1); (try clear hcz87_0); (try clear hcz87_1); (try clear hfz13_0); (try clear hfz13_1); (try clear hfz17_0); (try clear hfz17_1); (try clear hfz19_0); (try clear hfz19_1); (try clear hfz21_0); (try clear hfz21_1); (try clear hfz37_0); (try clear hfz37_1); (try clear hfz39_0); (try clear hfz39_1); (try clear hfz44_0); (try clear hfz44_1); (try clear hfz53_0); (try clear hfz53_1); (try clear hfz55_0); (try clear hfz55_1); (try clear hfz59_0); (try clear hfz59_1); (try clear hfz74_0); (try clear hfz74_1); (try clear hfz76_0); (try clear hfz76_1); (try clear hfz85_0); (try clear hfz85_1); (try clear hfz87_0); (try clear hfz87_1); (try clear hx515_0); (try clear hx517_0); (try clear hx518_0); (try clear p2); (try clear p5); (try clear p51); (try clear p515); (try clear p517); (try clear p518); (try clear p6); (try clear p64); (try clear q5); (try clear q51); (try clear q515); (try clear q517); (try clear q518)); obtain ⟨x29_7, x232_7, rfl, rfl, HA, HK7, HO_6, HO_7, HO_212, HO_230, HB⟩ := hrel
         cases gk with
         | zero => exact absurd HA.out (by simp [laws_FnRungsCompare.l3])
         | succ k7 =>
          have H := HA.out; clear HA
          simp only [laws_FnRungsCompare.l3] at H
          by_cases c104 : x232_7 < (t475.length : Int)
          ·
           rw [if_pos c104] at H; have c104b0 : decide (x232_7 < (t475.length : Int)) = true := decide_eq_true c104; clear c104
           by_cases c105 : 0 ≤ x232_7
           ·
            rw [if_pos c105] at H; have c105b0 : decide (0 ≤ x232_7) = true := decide_eq_true c105; clear c105
            by_cases c106 : x232_7 < (t475.length : Int)
            ·
             rw [if_pos c106] at H; have c106b0 : decide (x232_7 < (t475.length : Int)) = true := decide_eq_true c106; clear c106
             by_cases c107 : (rd t475 x232_7) = (rd t471 x214_5)
             · as_aux_lemma =>
              rw [if_pos c107] at H; have c107b0 : ((rd t475 x232_7) == (rd t471 x214_5)) = true := beq_iff_eq.mpr c107; have c107b1 : ((rd t475 x232_7) != (rd t471 x214_5)) = false := bne_eq_false_iff_eq.mpr c107; clear c107; have H' := Aside0.mk H; clear H; have p519 : 0 ≤ (x232_7 : Int) := of_decide_eq_true (by first | (with_reducible assumption) | assumption); have q519 : x232_7 < (t475.length : Int) := of_decide_eq_true (by first | (with_reducible assumption) | assumption); obtain ⟨ad519, e519, hx519_0⟩ := Kd.at_int (Kd.R_reads' HO_230.out).2.2 x232_7 p519 q519
              cases e519
              replace p519 := eq_true p519
              replace q519 := eq_true q519
              go_wp2
              go_roundg k7
              case measure => have := HJ9.out; have := HJ35.out; have := HJ51.out; have := HK4.out; have := HK5.out; have := HK6.out; have := HK7.out; omega
              case rel => exact ⟨(wrap64 (x29_7 - 1)), (wrap64 (x232_7 + 1)), (by first | rfl | (simp; done) | (simp [*]; done)), (by first | rfl | (simp; done) | (simp [*]; done)), H', ⟨by have := HJ9.out; have := HJ35.out; have := HJ51.out; have := HK4.out; have := HK5.out; have := HK6.out; have := HK7.out; omega⟩, ⟨Zr HO_6⟩, ⟨Zr HO_7⟩, ⟨Zr HO_212⟩, ⟨Zr HO_230⟩, ⟨Zl HB⟩⟩
             · as_aux_lemma =>
              rw [if_neg c107] at H; have c107b0 : ((rd t475 x232_7) == (rd t471 x214_5)) = false := beq_eq_false_iff_ne.mpr c107; have c107b1 : ((rd t475 x232_7) != (rd t471 x214_5)) = true := bne_iff_ne.mpr c107; have H' := Aside0.mk H; clear H; have p519 : 0 ≤ (x232_7 : Int) := of_decide_eq_true (by first | (with_reducible assumption) | assumption); have q519 : x232_7 < (t475.length : Int) := of_decide_eq_true (by first | (with_reducible assumption) | assumption); obtain ⟨ad519, e519, hx519_0⟩ := Kd.at_int (Kd.R_reads' HO_230.out).2.2 x232_7 p519 q519
              cases e519
              replace p519 := eq_true p519
              replace q519 := eq_true q519
              go_wp2
              go_roundg k7
              case measure => have := HJ9.out; have := HJ35.out; have := HJ51.out; have := HK4.out; have := HK5.out; have := HK6.out; have := HK7.out; omega
              case rel => exact ⟨(x29_7), (wrap64 (x232_7 + 1)), (by first | rfl | (simp; done) | (simp [*]; done)), (by first | rfl | (simp; done) | (simp [*]; done)), H', ⟨by have := HJ9.out; have := HJ35.out; have := HJ51.out; have := HK4.out; have := HK5.out; have := HK6.out; have := HK7.out; omega⟩, ⟨Zr HO_6⟩, ⟨Zr HO_7⟩, ⟨Zr HO_212⟩, ⟨Zr HO_230⟩, ⟨Zl HB⟩⟩
            ·
             rw [if_neg c106] at H
             exact absurd H (by simp)
           ·
            rw [if_neg c105] at H
            exact absurd H (by simp)
          ·
           rw [if_neg c104] at H; have c104b0 : decide (x232_7 < (t475.length : Int)) = false := decide_eq_false c104; clear c104
           by_cases c108 : x29_7 = 0
           · as_aux_lemma =>
            rw [if_pos c108] at H; have c108b0 : (x29_7 == 0) = true := beq_iff_eq.mpr c108; have c108b1 : (x29_7 != 0) = false := bne_eq_false_iff_eq.mpr c108; clear c108; have H' := Aside0.mk H; clear H
            go_wp2
            go_roundg k7
            case measure => have := HJ9.out; have := HJ35.out; have := HJ51.out; have := HK4.out; have := HK5.out; have := HK6.out; have := HK7.out; omega
            case rel => exact ⟨(wrap64 (x214_5 + 1)), (by first | rfl | (simp; done) | (simp [*]; done)), H', ⟨by have := HJ9.out; have := HJ35.out; have := HJ51.out; have := HK4.out; have := HK5.out; have := HK6.out; have := HK7.out; omega⟩, ⟨Zc HO_6⟩, ⟨Zr HO_7⟩, ⟨Zc HO_212⟩, ⟨Zl HB⟩⟩
           ·
            rw [if_neg c108] at H
            exact absurd H (by simp)
    ·
     rw [if_neg c98] at H
     exact absurd H (by simp)
   ·
    rw [if_neg c97] at H
    exact absurd H (by simp)
  · as_aux_lemma =>
   rw [if_neg c96] at H; have c96b0 : decide (x214_5 < (t471.length : Int)) = false := decide_eq_false c96; clear c96; have H' := Aside0.mk H; clear H
   go_wp2
   go_meet
   case rel => exact ⟨_, H', ⟨by have := HJ9.out; have := HJ35.out; have := HJ51.out; have := HK4.out; have := HK5.out; first | omega | exact Nat.le_refl _⟩, ⟨Zl HB⟩⟩

end Go.Proofs.Ytnagcjhgojchlac.Q
