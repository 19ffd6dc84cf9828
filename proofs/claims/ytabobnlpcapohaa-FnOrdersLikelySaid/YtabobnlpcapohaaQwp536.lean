/- Each function below comes to the Lean function beside it (theorems '.calls'); no condition beyond each theorem's own. Written by our program oprint.py over the kit's print. -/
import Derived.Test.YtabobnlpcapohaaQwp90
namespace Go.Proofs.Ytabobnlpcapohaa.Q
open Go.RowKit Go.Proofs.YtabobnlpcapohaaW.PrintWords Go.Proofs.YtabobnlpcapohaaW.PrintLast Go.Proofs.YtabobnlpcapohaaW.PrintMore
attribute [local go_sem] max2_int min2_int max_two min_two max_three min_three max_four min_four
set_option linter.unusedVariables false
set_option linter.unusedSimpArgs false

attribute [local go_sem high] eqA30
set_option maxHeartbeats 8000000 in
set_option maxRecDepth 100000 in
def laws_FnOrdersLikely_p536 : Part1 (laws_FnOrdersLikely_p90.Q2) := by
 refine Part1.mk ?Q1 (fun hq1 => ?main)
 case main =>
  iterate 862 (intro _)
  intro k A0 c0 l0 A1 c1 l1 r w hu30 HR0 HC0 HR1 HC1 A3 t520 t521 t522 A5 t525 t526 A6 t527 t528 A7 t529 t530 t531 A8 t533 t534 t535 A9 _ nd w11 Ao12 co12 w13 w14 w15 gb532 w16 GW532 GE532 w18 gb536 w19 HO524 BK536 GW536 GE536 _ NB532_536 NB536_532 _ HO_7 BK532 HB kj9 HJ9 HC30 _ wc hcut
  (clear HC30; (try clear c1); ); obtain ⟨kq, HA, HJ29, HB⟩ := hcut
  cases kq with
  | zero => exact absurd HA.out (by simp [laws_FnOrdersLikely.j3])
  | succ kj29 =>
   have H := HA.out; clear HA
   simp only [laws_FnOrdersLikely.j3] at H
   replace H := Option.bind_eq_some_iff.mp H; obtain ⟨⟨t556, t557⟩, A970, H⟩ := H; (try dsimp only at H); have A97 := Aside0.mk A970; clear A970; replace H := Option.bind_eq_some_iff.mp H; obtain ⟨⟨t558, t559, t560⟩, A980, H⟩ := H; (try dsimp only at H); have A98 := Aside0.mk A980; clear A980; replace H := Option.bind_eq_some_iff.mp H; obtain ⟨⟨t562, t563, t564⟩, A990, H⟩ := H; (try dsimp only at H); have A99 := Aside0.mk A990; clear A990; replace H := Option.bind_eq_some_iff.mp H; obtain ⟨⟨t566, t567⟩, A1000, H⟩ := H; (try dsimp only at H); have A100 := Aside0.mk A1000; clear A1000; replace H := Option.bind_eq_some_iff.mp H; obtain ⟨⟨t568, t569⟩, A1010, H⟩ := H; (try dsimp only at H); have A101 := Aside0.mk A1010; clear A1010; replace H := Option.bind_eq_some_iff.mp H; obtain ⟨⟨t570, t571⟩, A1020, H⟩ := H; (try dsimp only at H); have A102 := Aside0.mk A1020; clear A1020; replace H := Option.bind_eq_some_iff.mp H; obtain ⟨⟨t574, t575⟩, A1030, H⟩ := H; (try dsimp only at H); have A103 := Aside0.mk A1030; clear A1030; have HC104 := Aside0.mk H; clear H
   go_upto_region 31 with (first | (go_at_call 16; (with_reducible refine (spec_DrawMeanInversions.calls _ _ l1 t556 t557 _ ?side1 ?side2 A97.out).mono ?_); (case side1 => repeat (first | exact (Kd.C_below HR1.out HB.out) | (with_reducible refine Kd.C_alloc ?_ _) | (with_reducible refine Kd.C_drewN ?_ _) | (with_reducible refine Kd.C_drew ?_))); (case side2 => exact HC1.out); rintro e w105 ⟨rfl, hb⟩; replace HB := Zh HB hb; (try clear hb); (try clear hb2); (try clear hk); (try clear hi)) | (go_at_call 17; (with_reducible refine (impl_MeanInversions.calls kj29 t556 t557 t558 t559 t560 _ A98.out).mono ?_); rintro e w106 ⟨rfl, hb⟩; replace HB := Zh HB hb; (try clear hb); (try clear hb2); (try clear hk); (try clear hi)) | ((with_reducible refine gate_dst (N := 32) rfl ?_); refine box_event ?hg (N := 32) ?hd (cs := #[.int .i64 0, .int .i64 0]) (t := 30) ?hr ?_; (case hd => rfl); (case hg => rfl); (case hr => first | (go_simp; done) | (go_simp; rfl)); intro gb561 hg w107 hbox hb; have BK561 := Zm (hbox); have GW561 := Zx hg HB; have GE561 := Zx hg HB; replace HB := Zh HB hb; clear hb hbox hg; have hcz108_0 : w107.cell? ⟨gb561, 0, none⟩ = some (.int .i64 0) := (blk_cell BK561.out 0).trans rfl; have hcz108_1 : w107.cell? ⟨gb561, 1, none⟩ = some (.int .i64 0) := (blk_cell BK561.out 1).trans rfl; have hfz108_0 := blk_frozen BK561.out 0; have hfz108_1 := blk_frozen BK561.out 1) | (go_at_call 18; (with_reducible refine (spec_MeanInversions.calls kj29 t556 t557 t562 t563 t564 _ A99.out).mono ?_); rintro e w109 ⟨rfl, hb⟩; replace BK561 := Zm (blk_below (g := gb561) (o := .cells #[.int .i64 t558, .int .i64 t559] 30 (0, 0)) (by (with_reducible repeat (first | refine blk_drewN ?_ _ | refine blk_drew ?_ | refine blk_alloc ?_ _)); refine blk_put (cs := #[.int .i64 t558, .int .i64 0]) ?_ 1 _ rfl; (with_reducible repeat (first | refine blk_drewN ?_ _ | refine blk_drew ?_ | refine blk_alloc ?_ _)); refine blk_put (cs := #[.int .i64 0, .int .i64 0]) ?_ 0 _ rfl; (with_reducible repeat (first | refine blk_drewN ?_ _ | refine blk_drew ?_ | refine blk_alloc ?_ _)); exact BK561.out) hb); replace HB := Zh HB hb; (try clear hb); (try clear hb2); (try clear hk); (try clear hi)) | ((with_reducible refine gate_dst (N := 34) rfl ?_); refine box_event ?hg (N := 34) ?hd (cs := #[.int .i64 0, .int .i64 0]) (t := 30) ?hr ?_; (case hd => rfl); (case hg => rfl); (case hr => first | (go_simp; done) | (go_simp; rfl)); intro gb565 hg w110 hbox hb; have BK565 := Zm (hbox); have GW565 := Zx hg HB; have GE565 := Zx hg HB; replace HB := Zh HB hb; have NB561_565 := Zq hg BK561; have NB565_561 := Zp hg BK561; replace BK561 := Zk BK561 hb; clear hb hbox hg; have hnb111 := NB565_561.out; have hnc111 := NB561_565.out; have hcz112_0 : w110.cell? ⟨gb565, 0, none⟩ = some (.int .i64 0) := (blk_cell BK565.out 0).trans rfl; have hcz112_1 : w110.cell? ⟨gb565, 1, none⟩ = some (.int .i64 0) := (blk_cell BK565.out 1).trans rfl; have hfz112_0 := blk_frozen BK565.out 0; have hfz112_1 := blk_frozen BK565.out 1) | (go_at_call 19; (with_reducible refine (impl_CountOrdersMade.calls kj29 t556 t557 t566 t567 _ A100.out).mono ?_); rintro e w113 ⟨rfl, hb⟩; replace BK561 := Zm (blk_below (g := gb561) (o := .cells #[.int .i64 t558, .int .i64 t559] 30 (0, 0)) (by (with_reducible repeat (first | refine blk_drewN ?_ _ | refine blk_drew ?_ | refine blk_alloc ?_ _)); refine blk_far ?_ NB561_565.out _; (with_reducible repeat (first | refine blk_drewN ?_ _ | refine blk_drew ?_ | refine blk_alloc ?_ _)); refine blk_far ?_ NB561_565.out _; (with_reducible repeat (first | refine blk_drewN ?_ _ | refine blk_drew ?_ | refine blk_alloc ?_ _)); exact BK561.out) hb); replace BK565 := Zm (blk_below (g := gb565) (o := .cells #[.int .i64 t562, .int .i64 t563] 30 (0, 0)) (by (with_reducible repeat (first | refine blk_drewN ?_ _ | refine blk_drew ?_ | refine blk_alloc ?_ _)); refine blk_put (cs := #[.int .i64 t562, .int .i64 0]) ?_ 1 _ rfl; (with_reducible repeat (first | refine blk_drewN ?_ _ | refine blk_drew ?_ | refine blk_alloc ?_ _)); refine blk_put (cs := #[.int .i64 0, .int .i64 0]) ?_ 0 _ rfl; (with_reducible repeat (first | refine blk_drewN ?_ _ | refine blk_drew ?_ | refine blk_alloc ?_ _)); exact BK565.out) hb); replace HB := Zh HB hb; (try clear hb); (try clear hb2); (try clear hk); (try clear hi)) | (go_at_call 20; (with_reducible refine (spec_CountOrdersMade.calls kj29 t556 t557 t568 t569 _ A101.out).mono ?_); rintro e w114 ⟨rfl, hb⟩; replace BK561 := Zk BK561 hb; replace BK565 := Zk BK565 hb; replace HB := Zh HB hb; (try clear hb); (try clear hb2); (try clear hk); (try clear hi)) | (go_at_call 14; (with_reducible refine (impl_LikeliestOrder.calls kj29 t556 t557 t570 t571 _ A102.out).mono ?_); rintro e w115 ⟨v572, rfl, ho0, hb⟩; have HO573 := Zj ho0 HB; replace BK561 := Zk BK561 hb; replace BK565 := Zk BK565 hb; replace HB := Zh HB hb; (try clear hb); (try clear ho0)) | (go_at_call 21; (with_reducible refine (spec_LikeliestOrder.calls kj29 t556 t557 t574 t575 _ A103.out).mono ?_); rintro e w116 ⟨v576, rfl, ho0, hb⟩; have HO577 := Zj (Zv ho0 HO573) HB; replace HO573 := Zm (Kd.R_elder' (Zr HO573) (Kd.R_base ho0) hb); replace BK561 := Zk BK561 hb; replace BK565 := Zk BK565 hb; replace HB := Zh HB hb; (try clear hb); (try clear ho0)))
   repeat (go_quiet (fail); try go_wp2)
   (try simp only [Act.put, List.setIfInBounds_toArray, List.set_cons_zero, List.set_cons_succ])
   go_cut [346] (fun v346 wc => ∃ (kq : Nat) (x346_103 : Bool), v346 = .bool x346_103 ∧ Aside0 (laws_FnOrdersLikely.j4 kq l1 t556 t557 t560 t566 x346_103 t558 t559 = some r) ∧ Aside0 (kq ≤ kj29) ∧ Aside0 (wc.heap[gb561]? = some (.cells #[.int .i64 t558, .int .i64 t559] 30 (0, 0))) ∧ Aside0 (Below w.heap.size w wc))
   case first => as_aux_lemma =>
    (repeat (rename World.cell? _ _ = _ => z_; clear z_)); (repeat (rename World.frozen? _ _ = _ => z_; clear z_))
    have H := HC104.out; clear HC104
    by_cases c117 : (t560 != t564) = true
    ·
     rw [if_pos c117] at H
     exact absurd H (by simp)
    ·
     rw [if_neg c117] at H; obtain ⟨c117b0, c117b1, c117b2⟩ := Zd c117; clear c117
     (first | rw [c117b0] | (simp only [i64_w, i32_w]; rw [c117b0]) | skip)
     by_cases c118 : (!(t558 == t562) || (!(t559 == t563))) = true
     ·
      rw [if_pos c118] at H
      exact absurd H (by simp)
     ·
      rw [if_neg c118] at H; (have c118b0 : (!(t558 == t562) || (!(t559 == t563))) = false := by simpa using c118); clear c118
      by_cases c119 : (t567 != t569) = true
      ·
       rw [if_pos c119] at H
       exact absurd H (by simp)
      ·
       rw [if_neg c119] at H; obtain ⟨c119b0, c119b1, c119b2⟩ := Zd c119; clear c119
       by_cases c120 : t566 = t568
       ·
        rw [if_pos c120] at H; have c120b0 : (t566 == t568) = true := beq_iff_eq.mpr c120; have c120b1 : (t566 != t568) = false := bne_eq_false_iff_eq.mpr c120; clear c120
        by_cases c121 : (t571 != t575) = true
        ·
         rw [if_pos c121] at H
         exact absurd H (by simp)
        ·
         rw [if_neg c121] at H; obtain ⟨c121b0, c121b1, c121b2⟩ := Zd c121; clear c121; replace H := Option.bind_eq_some_iff.mp H; obtain ⟨t578, A1220, H⟩ := H; (try dsimp only at H); have A122 := Aside0.mk A1220; clear A1220
         by_cases c123 : t578 = true
         ·
          subst c123
          rw [if_pos rfl] at H
          by_cases c124 : (t567 != t560) = true
          ·
           rw [if_pos c124] at H
           exact absurd H (by simp)
          · as_aux_lemma =>
           rw [if_neg c124] at H; obtain ⟨c124b0, c124b1, c124b2⟩ := Zd c124; clear c124; have H' := Aside0.mk H; clear H; have hnb125 := NB561_565.out; have hnc125 := NB565_561.out; have hcz126_0 : w116.cell? ⟨gb561, 0, none⟩ = some (.int .i64 t558) := (blk_cell BK561.out 0).trans rfl; have hcz126_1 : w116.cell? ⟨gb561, 1, none⟩ = some (.int .i64 t559) := (blk_cell BK561.out 1).trans rfl; have hfz126_0 := blk_frozen BK561.out 0; have hfz126_1 := blk_frozen BK561.out 1; have hcz127_0 : w116.cell? ⟨gb565, 0, none⟩ = some (.int .i64 t562) := (blk_cell BK565.out 0).trans rfl; have hcz127_1 : w116.cell? ⟨gb565, 1, none⟩ = some (.int .i64 t563) := (blk_cell BK565.out 1).trans rfl; have hfz127_0 := blk_frozen BK565.out 0; have hfz127_1 := blk_frozen BK565.out 1; obtain ⟨Ao128, co128, eo128⟩ := Kd.R_slice HO573.out; subst eo128; obtain ⟨Ao129, co129, eo129⟩ := Kd.R_slice HO577.out; subst eo129
           go_wp2_with (first | (go_at_call 22; (with_reducible refine (laws_nSame.calls kj29 _ _ t570 _ _ t574 true _ ?side1 ?side2 ?side3 ?side4 A122.out).mono ?_); (case side1 => repeat (first | exact (Kd.R_reads' HO573.out).2.2 | (with_reducible refine Kd.C_alloc ?_ _) | (with_reducible refine Kd.C_drewN ?_ _) | (with_reducible refine Kd.C_drew ?_))); (case side2 => exact (Kd.R_reads' HO573.out).2.1); (case side3 => repeat (first | exact (Kd.R_reads' HO577.out).2.2 | (with_reducible refine Kd.C_alloc ?_ _) | (with_reducible refine Kd.C_drewN ?_ _) | (with_reducible refine Kd.C_drew ?_))); (case side4 => exact (Kd.R_reads' HO577.out).2.1); rintro e w' ⟨rfl, ⟨nd, rfl⟩⟩; (try first | exact ⟨rfl, _, World.drewN_drewN _ _ _⟩ | exact ⟨rfl, _, Eq.trans (World.drewN_drewN _ _ _) (congrArg (World.drewN _) (Nat.add_assoc _ _ _))⟩)))
           repeat (go_quiet (fail); try go_wp2)
           go_meet
           case rel => exact ⟨_, ((t571 != t560)), (by first | rfl | (simp; done) | (simp [*]; done)), H', ⟨by have := HJ9.out; have := HJ29.out; first | omega | exact Nat.le_refl _⟩, ⟨Zb BK561⟩, ⟨Zl HB⟩⟩
         ·
          replace c123 := Bool.eq_false_iff.mpr c123
          subst c123
          rw [if_neg Bool.false_ne_true] at H
          exact absurd H (by simp)
       ·
        rw [if_neg c120] at H
        exact absurd H (by simp)
   case rest =>
    (repeat (rename World.cell? _ _ = _ => z_; clear z_)); (repeat (rename World.frozen? _ _ = _ => z_; clear z_)); (repeat (rename @Ne Nat _ _ => z_; clear z_))
    clear HC104; (try clear c1); (try clear c2); (try clear p2); (try clear c3); (try clear c4); (try clear c5); (try clear c6); (try clear p6); (try clear c7); (try clear c8); (try clear c9); (try clear c11); (try clear c12); (try clear c20); (try clear c22); (try clear c22b0); (try clear c22b1); (try clear c22b2); (try clear c23); (try clear c23b0); (try clear c23b1); (try clear c24); (try clear c24b0); (try clear c24b1); (try clear c24b2); (try clear c25); (try clear c25b0); (try clear c26); (try clear c29); (try clear c31); (try clear c43); (try clear c44); (try clear c44b0); (try clear c44b1); (try clear c45); (try clear c45b0); (try clear c45b1); (try clear c46); (try clear c47); (try clear c48); (try clear c49); (try clear c51); (try clear c53); (try clear c53b0); (try clear c54); (try clear c54b0); (try clear c54b1); (try clear c55); (try clear c55b0); (try clear c55b1); (try clear c56); (try clear c56b0); (try clear c56b1); (try clear c57); (try clear c57b0); (try clear c57b1); (try clear c58); (try clear c58b0); (try clear c59); (try clear c59b0); (try clear c59b1); (try clear c60); (try clear c60b0); (try clear c61); (try clear c61b0); (try clear c61b1); (try clear c62); (try clear c62b0); (try clear c62b1); (try clear c63); (try clear c63b0); (try clear c63b1); (try clear c64); (try clear c64b0); (try clear p64); (try clear c65); (try clear c65b0); (try clear c65b1); (try clear c66); (try clear c66b0); (try clear c67); (try clear c67b0); (try clear c67b1); (try clear c68); (try clear c68b0); (try clear c68b1); (try clear c69); (try clear c69b0); (try clear c69b1); (try clear c70); (try clear c70b0); (try clear c70b1); (try clear c71); (try clear c71b0); (try clear c72); (try clear c72b0); (try clear c72b1); (try clear c73); (try clear c73b0); (try clear c74); (try clear c74b0); (try clear c74b1); (try clear c75); (try clear c75b0); (try clear c75b1); (try clear c76); (try clear c76b0); (try clear c76b1); (try clear c77); (try clear c77b0); (try clear c77b1); (try clear c78); (try clear c78b0); (try clear c79); (try clear c79b0); (try clear c79b1); (try clear c80); (try clear c80b0); (try clear c81); (try clear c81b0); (try clear c81b1); (try clear c82); (try clear c85); (try clear c86); (try clear c87); (try clear c87b0); (try clear c88); (try clear c88b0); (try clear c88b1); (try clear c90); (try clear c111); (try clear c117); (try clear c117b0); (try clear c117b1); (try clear c117b2); (try clear c118); (try clear c118b0); (try clear c119); (try clear c119b0); (try clear c119b1); (try clear c119b2); (try clear c120); (try clear c120b0); (try clear c120b1); (try clear c121); (try clear c121b0); (try clear c121b1); (try clear c121b2); (try clear c123); (try clear c124); (try clear c124b0); (try clear c124b1); (try clear c124b2); (try clear c125); (try clear hcz108_0); (try clear hcz108_1); (try clear hcz112_0); (try clear hcz112_1); (try clear hcz126_0); (try clear hcz126_1); (try clear hcz127_0); (try clear hcz127_1); (try clear hcz17_0); (try clear hcz17_1); (try clear hcz21_0); (try clear hcz21_1); (try clear hcz27_0); (try clear hcz27_1); (try clear hcz28_0); (try clear hcz28_1); (try clear hcz50_0); (try clear hcz50_1); (try clear hfz108_0); (try clear hfz108_1); (try clear hfz112_0); (try clear hfz112_1); (try clear hfz126_0); (try clear hfz126_1); (try clear hfz127_0); (try clear hfz127_1); (try clear hfz17_0); (try clear hfz17_1); (try clear hfz21_0); (try clear hfz21_1); (try clear hfz27_0); (try clear hfz27_1); (try clear hfz28_0); (try clear hfz28_1); (try clear hfz50_0); (try clear hfz50_1); (try clear p2); (try clear p6); (try clear p64)
    revert k A0 c0 l0 A1 c1 l1 r w hu30 HR0 HC0 HR1 HC1 A3 t520 t521 t522 A5 t525 t526 A6 t527 t528 A7 t529 t530 t531 A8 t533 t534 t535 A9 nd w11 Ao12 co12 w13 w14 w15 gb532 w16 GW532 GE532 w18 gb536 w19 HO524 BK536 GW536 GE536 NB532_536 NB536_532 HO_7 BK532 kj9 HJ9 kj29 HJ29 t556 t557 A97 t558 t559 t560 A98 t562 t563 t564 A99 t566 t567 A100 t568 t569 A101 t570 t571 A102 t574 t575 A103 w105 w106 gb561 w107 GW561 GE561 w109 gb565 w110 GW565 GE565 NB561_565 NB565_561 w113 w114 w115 v572 w116 v576 HO577 HO573 BK561 BK565 HB wc hcut; iterate 1287 (rename _ => z_; revert z_)
    exact hq1.out

end Go.Proofs.Ytabobnlpcapohaa.Q
