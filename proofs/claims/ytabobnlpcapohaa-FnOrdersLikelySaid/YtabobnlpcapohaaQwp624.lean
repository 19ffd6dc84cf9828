/- Each function below comes to the Lean function beside it (theorems '.calls'); no condition beyond each theorem's own. Written by our program oprint.py over the kit's print. -/
import Derived.Test.YtabobnlpcapohaaQwp602
namespace Go.Proofs.Ytabobnlpcapohaa.Q
open Go.RowKit Go.Proofs.YtabobnlpcapohaaW.PrintWords Go.Proofs.YtabobnlpcapohaaW.PrintLast Go.Proofs.YtabobnlpcapohaaW.PrintMore
attribute [local go_sem] max2_int min2_int max_two min_two max_three min_three max_four min_four
set_option linter.unusedVariables false
set_option linter.unusedSimpArgs false

attribute [local go_sem high] eqA30
set_option maxHeartbeats 8000000 in
set_option maxRecDepth 100000 in
theorem laws_FnOrdersLikely_p624 : laws_FnOrdersLikely_p602.Q1 := by
 iterate 1288 (intro _)
 intro k A0 c0 l0 A1 c1 l1 r w hu30 HR0 HC0 HR1 HC1 A3 t520 t521 t522 A5 t525 t526 A6 t527 t528 A7 t529 t530 t531 A8 t533 t534 t535 A9 _ nd w11 Ao12 co12 w13 w14 w15 gb532 w16 GW532 GE532 w18 gb536 w19 HO524 BK536 GW536 GE536 _ NB532_536 NB536_532 _ HO_7 BK532 _ kj9 HJ9 kj29 HJ29 t556 t557 A97 t558 t559 t560 A98 t562 t563 t564 A99 t566 t567 A100 t568 t569 A101 t570 t571 A102 t574 t575 A103 w105 w106 gb561 w107 GW561 GE561 w109 gb565 w110 GW565 GE565 NB561_565 NB565_561 w113 w114 w115 v572 w116 v576 HO577 HO573 _ BK565 _ wc BK561 HB kj103 HJ103 HC131 _ _
 have H := HC131.out; clear HC131
 by_cases c132 : t560 = true
 ·
  subst c132
  rw [if_pos rfl] at H
  have H' := Aside0.mk H; clear H
  go_wp2
  repeat (go_quiet (fail); try go_wp2)
  go_loopg [44, 45] kj103 (fun kq v44 v45 w' => ∃ (x44_4 : Int) (x45_4 : Int), v44 = .int .i64 x44_4 ∧ v45 = .int .i64 x45_4 ∧ Aside0 (laws_FnOrdersLikely.l0 kq l1 t556 t557 t566 x44_4 x45_4 t558 t559 = some r) ∧ Aside0 (kq ≤ kj103) ∧ Aside0 (w'.heap[gb561]? = some (.cells #[.int .i64 t558, .int .i64 t559] 30 (0, 0))) ∧ Aside0 (Below w.heap.size w w'))
  case atStart => exact ⟨(1), (3), (by first | rfl | (simp; done) | (simp [*]; done)), (by first | rfl | (simp; done) | (simp [*]; done)), H', ⟨Nat.le_refl _⟩, ⟨Zb BK561⟩, ⟨Zl HB⟩⟩
  case round => as_aux_lemma =>
   (repeat (rename World.cell? _ _ = _ => z_; clear z_)); (repeat (rename World.frozen? _ _ = _ => z_; clear z_)); (repeat (rename @Ne Nat _ _ => z_; clear z_))
   clear H'; (try clear c1); (try clear c2); (try clear p2); (try clear c3); (try clear c4); (try clear c5); (try clear c6); (try clear p6); (try clear c7); (try clear c8); (try clear c9); (try clear c11); (try clear c12); (try clear c13); (try clear c20); (try clear c22); (try clear c22b0); (try clear c22b1); (try clear c22b2); (try clear c23); (try clear c23b0); (try clear c23b1); (try clear c24); (try clear c24b0); (try clear c24b1); (try clear c24b2); (try clear c25); (try clear c25b0); (try clear c26); (try clear c29); (try clear c31); (try clear c43); (try clear c44); (try clear c44b0); (try clear c44b1); (try clear c45); (try clear c45b0); (try clear c45b1); (try clear c46); (try clear c47); (try clear c48); (try clear c49); (try clear c51); (try clear c53); (try clear c53b0); (try clear c54); (try clear c54b0); (try clear c54b1); (try clear c55); (try clear c55b0); (try clear c55b1); (try clear c56); (try clear c56b0); (try clear c56b1); (try clear c57); (try clear c57b0); (try clear c57b1); (try clear c58); (try clear c58b0); (try clear c59); (try clear c59b0); (try clear c59b1); (try clear c60); (try clear c60b0); (try clear c61); (try clear c61b0); (try clear c61b1); (try clear c62); (try clear c62b0); (try clear c62b1); (try clear c63); (try clear c63b0); (try clear c63b1); (try clear c64); (try clear c64b0); (try clear p64); (try clear c65); (try clear c65b0); (try clear c65b1); (try clear c66); (try clear c66b0); (try clear c67); (try clear c67b0); (try clear c67b1); (try clear c68); (try clear c68b0); (try clear c68b1); (try clear c69); (try clear c69b0); (try clear c69b1); (try clear c70); (try clear c70b0); (try clear c70b1); (try clear c71); (try clear c71b0); (try clear c72); (try clear c72b0); (try clear c72b1); (try clear c73); (try clear c73b0); (try clear c74); (try clear c74b0); (try clear c74b1); (try clear c75); (try clear c75b0); (try clear c75b1); (try clear c76); (try clear c76b0); (try clear c76b1); (try clear c77); (try clear c77b0); (try clear c77b1); (try clear c78); (try clear c78b0); (try clear c79); (try clear c79b0); (try clear c79b1); (try clear c80); (try clear c80b0); (try clear c81); (try clear c81b0); (try clear c81b1); (try clear c82); (try clear c85); (try clear c86); (try clear c87); (try clear c87b0); (try clear c88); (try clear c88b0); (try clear c88b1); (try clear c90); (try clear c111); (try clear c117); (try clear c117b0); (try clear c117b1); (try clear c117b2); (try clear c118); (try clear c118b0); (try clear c119); (try clear c119b0); (try clear c119b1); (try clear c119b2); (try clear c120); (try clear c120b0); (try clear c120b1); (try clear c121); (try clear c121b0); (try clear c121b1); (try clear c121b2); (try clear c123); (try clear c124); (try clear c124b0); (try clear c124b1); (try clear c124b2); (try clear c125); (try clear c130); (try clear c132); (try clear hcz108_0); (try clear hcz108_1); (try clear hcz112_0); (try clear hcz112_1); (try clear hcz126_0); (try clear hcz126_1); (try clear hcz127_0); (try clear hcz127_1); (try clear hcz17_0); (try clear hcz17_1); (try clear hcz21_0); (try clear hcz21_1); (try clear hcz27_0); (try clear hcz27_1); (try clear hcz28_0); (try clear hcz28_1); (try clear hcz50_0); (try clear hcz50_1); (try clear hfz108_0); (try clear hfz108_1); (try clear hfz112_0); (try clear hfz112_1); (try clear hfz126_0); (try clear hfz126_1); (try clear hfz127_0); (try clear hfz127_1); (try clear hfz17_0); (try clear hfz17_1); (try clear hfz21_0); (try clear hfz21_1); (try clear hfz27_0); (try clear hfz27_1); (try clear hfz28_0); (try clear hfz28_1); (try clear hfz50_0); (try clear hfz50_1); (try clear p2); (try clear p6); (try clear p64)
   obtain ⟨x44_4, x45_4, rfl, rfl, HA, HK4, BK561, HB⟩ := hrel
   cases gk with
   | zero => exact absurd HA.out (by simp [laws_FnOrdersLikely.l0])
   | succ k4 =>
    have H := HA.out; clear HA
    simp only [laws_FnOrdersLikely.l0] at H
    by_cases c133 : x45_4 ≤ t556
    · as_aux_lemma =>
     rw [if_pos c133] at H; have c133b0 : decide (x45_4 ≤ t556) = true := decide_eq_true c133; clear c133
     (first | rw [c133b0] | (simp only [i64_w, i32_w]; rw [c133b0]) | skip)
     have H' := Aside0.mk H; clear H
     go_wp2
     repeat (go_quiet (fail); try go_wp2)
     go_roundg k4
     case measure => have := HJ9.out; have := HJ29.out; have := HJ103.out; have := HK4.out; omega
     case rel => exact ⟨(wrap64 (x44_4 * x45_4)), (wrap64 (x45_4 + 1)), (by first | rfl | (simp; done) | (simp [*]; done)), (by first | rfl | (simp; done) | (simp [*]; done)), H', ⟨by have := HJ9.out; have := HJ29.out; have := HJ103.out; have := HK4.out; omega⟩, ⟨Zb BK561⟩, ⟨Zl HB⟩⟩
    ·
     rw [if_neg c133] at H; have c133b0 : decide (x45_4 ≤ t556) = false := decide_eq_false c133; clear c133
     (first | rw [c133b0] | (simp only [i64_w, i32_w]; rw [c133b0]) | skip)
     by_cases c134 : t566 < 1
     ·
      rw [if_pos c134] at H
      exact absurd H (by simp)
     ·
      rw [if_neg c134] at H; have c134b0 : decide (t566 < 1) = false := decide_eq_false c134; clear c134
      by_cases c135 : t566 > x44_4
      ·
       rw [if_pos c135] at H
       exact absurd H (by simp)
      ·
       rw [if_neg c135] at H; have c135b0 : decide (x44_4 < t566) = false := decide_eq_false c135; clear c135
       by_cases c136 : t558 < 0
       ·
        rw [if_pos c136] at H
        exact absurd H (by simp)
       ·
        rw [if_neg c136] at H; have c136b0 : decide (t558 < 0) = false := decide_eq_false c136; clear c136
        by_cases c137 : t558 > (wrap64 (t557 * t559))
        ·
         rw [if_pos c137] at H
         exact absurd H (by simp)
        · as_aux_lemma =>
         rw [if_neg c137] at H; have c137b0 : decide ((wrap64 (t557 * t559)) < t558) = false := decide_eq_false c137; clear c137; have H' := Aside0.mk H; clear H; have hcz138_0 : wr.cell? ⟨gb561, 0, none⟩ = some (.int .i64 t558) := (blk_cell BK561.out 0).trans rfl; have hcz138_1 : wr.cell? ⟨gb561, 1, none⟩ = some (.int .i64 t559) := (blk_cell BK561.out 1).trans rfl; have hfz138_0 := blk_frozen BK561.out 0; have hfz138_1 := blk_frozen BK561.out 1
         go_wp2
         repeat (go_quiet (fail); try go_wp2)
         go_meet
         case rel => exact ⟨_, H', ⟨by have := HJ9.out; have := HJ29.out; have := HJ103.out; have := HK4.out; first | omega | exact Nat.le_refl _⟩, ⟨Zl HB⟩⟩
 · as_aux_lemma =>
  replace c132 := Bool.eq_false_iff.mpr c132
  subst c132
  rw [if_neg Bool.false_ne_true] at H
  have H' := Aside0.mk H; clear H
  go_wp2
  repeat (go_quiet (fail); try go_wp2)
  go_meet
  case rel => exact ⟨_, H', ⟨by have := HJ9.out; have := HJ29.out; have := HJ103.out; first | omega | exact Nat.le_refl _⟩, ⟨Zl HB⟩⟩

end Go.Proofs.Ytabobnlpcapohaa.Q
