/- Each function below comes to the Lean function beside it (theorems '.calls'); no condition beyond each theorem's own. Written by our program oprint.py over the kit's print. -/
import Derived.Test.YtabobnlpcapohaaQwp695
namespace Go.Proofs.Ytabobnlpcapohaa.Q
open Go.RowKit Go.Proofs.YtabobnlpcapohaaW.PrintWords Go.Proofs.YtabobnlpcapohaaW.PrintLast Go.Proofs.YtabobnlpcapohaaW.PrintMore
attribute [local go_sem] max2_int min2_int max_two min_two max_three min_three max_four min_four
set_option linter.unusedVariables false
set_option linter.unusedSimpArgs false

attribute [local go_sem high] eqA30
set_option maxHeartbeats 8000000 in
set_option maxRecDepth 100000 in
theorem laws_FnOrdersLikely_p755 : laws_FnOrdersLikely_p695.Q1 := by
 iterate 2138 (intro _)
 intro k A0 c0 l0 A1 c1 l1 r w hu30 HR0 HC0 HR1 HC1 A3 t520 t521 t522 A5 t525 t526 A6 t527 t528 A7 t529 t530 t531 A8 t533 t534 t535 A9 _ w11 Ao12 co12 w13 w14 w15 gb532 w16 GW532 GE532 w18 gb536 w19 HO524 BK536 GW536 GE536 _ NB532_536 NB536_532 _ HO_7 BK532 _ kj9 HJ9 kj29 HJ29 t556 t557 A97 t558 t559 t560 A98 t562 t563 t564 A99 t566 t567 A100 t568 t569 A101 t570 t571 A102 t574 t575 A103 w105 w106 gb561 w107 GW561 GE561 w109 gb565 w110 GW565 GE565 NB561_565 NB565_561 w113 w114 w115 v572 w116 v576 HO577 HO573 _ BK565 _ BK561 _ kj103 HJ103 kj130 HJ130 t579 t580 t581 t582 A139 t583 t584 t585 A140 t587 t588 t589 A141 t591 A142 t592 t593 A143 t594 t595 A144 w146 w147 gb586 w148 GW586 GE586 w150 gb590 w151 GW590 GE590 NB586_590 NB590_586 w154 nd w155 BK586 BK590 HB _ _ wc hcut
 obtain ⟨kq, x442_144, rfl, HA, HJ144, HB⟩ := hcut
 cases kq with
 | zero => exact absurd HA.out (by simp [laws_FnOrdersLikely.j7])
 | succ kj144 =>
  have H := HA.out; clear HA
  simp only [laws_FnOrdersLikely.j7] at H
  by_cases c167 : x442_144 = true
  ·
   subst c167
   rw [if_pos rfl] at H
   exact absurd H (by simp)
  ·
   replace c167 := Bool.eq_false_iff.mpr c167
   subst c167
   rw [if_neg Bool.false_ne_true] at H
   by_cases c168 : t585 = true
   ·
    subst c168
    rw [if_pos rfl] at H
    replace H := Option.bind_eq_some_iff.mp H; obtain ⟨⟨t596, t597⟩, A1690, H⟩ := H; (try dsimp only at H); have A169 := Aside0.mk A1690; clear A1690; have H' := Aside0.mk H; clear H
    go_wp2_with (first | (go_at_call 10; (with_reducible refine (impl_CountLadders.calls kj144 t579 t580 t596 t597 _ A169.out).mono ?_); rintro e w' ⟨rfl, ⟨nd, rfl⟩⟩; (try first | exact ⟨rfl, _, World.drewN_drewN _ _ _⟩ | exact ⟨rfl, _, Eq.trans (World.drewN_drewN _ _ _) (congrArg (World.drewN _) (Nat.add_assoc _ _ _))⟩)))
    repeat (go_quiet (fail); try go_wp2)
    go_loopg [61, 62] kj144 (fun kq v61 v62 w' => ∃ (x61_6 : Int) (x62_6 : Int), v61 = .int .i64 x61_6 ∧ v62 = .int .i64 x62_6 ∧ Aside0 (laws_FnOrdersLikely.l1 kq t579 t580 t596 t597 x61_6 x62_6 = some r) ∧ Aside0 (kq ≤ kj144) ∧ Aside0 (Below w.heap.size w w'))
    case atStart => exact ⟨(0), (0), (by first | rfl | (simp; done) | (simp [*]; done)), (by first | rfl | (simp; done) | (simp [*]; done)), H', ⟨Nat.le_refl _⟩, ⟨Zl HB⟩⟩
    case round => as_aux_lemma =>
     (repeat (rename World.cell? _ _ = _ => z_; clear z_)); (repeat (rename World.frozen? _ _ = _ => z_; clear z_)); (repeat (rename @Ne Nat _ _ => z_; clear z_))
     clear H'; (try clear c1); (try clear c2); (try clear p2); (try clear c3); (try clear c4); (try clear c5); (try clear c6); (try clear p6); (try clear c7); (try clear c8); (try clear c9); (try clear c11); (try clear c12); (try clear c13); (try clear c15); (try clear c16); (try clear c20); (try clear c22); (try clear c22b0); (try clear c22b1); (try clear c22b2); (try clear c23); (try clear c23b0); (try clear c23b1); (try clear c24); (try clear c24b0); (try clear c24b1); (try clear c24b2); (try clear c25); (try clear c25b0); (try clear c26); (try clear c29); (try clear c31); (try clear c43); (try clear c44); (try clear c44b0); (try clear c44b1); (try clear c45); (try clear c45b0); (try clear c45b1); (try clear c46); (try clear c47); (try clear c48); (try clear c49); (try clear c51); (try clear c53); (try clear c53b0); (try clear c54); (try clear c54b0); (try clear c54b1); (try clear c55); (try clear c55b0); (try clear c55b1); (try clear c56); (try clear c56b0); (try clear c56b1); (try clear c57); (try clear c57b0); (try clear c57b1); (try clear c58); (try clear c58b0); (try clear c59); (try clear c59b0); (try clear c59b1); (try clear c60); (try clear c60b0); (try clear c61); (try clear c61b0); (try clear c61b1); (try clear c62); (try clear c62b0); (try clear c62b1); (try clear c63); (try clear c63b0); (try clear c63b1); (try clear c64); (try clear c64b0); (try clear p64); (try clear c65); (try clear c65b0); (try clear c65b1); (try clear c66); (try clear c66b0); (try clear c67); (try clear c67b0); (try clear c67b1); (try clear c68); (try clear c68b0); (try clear c68b1); (try clear c69); (try clear c69b0); (try clear c69b1); (try clear c70); (try clear c70b0); (try clear c70b1); (try clear c71); (try clear c71b0); (try clear c72); (try clear c72b0); (try clear c72b1); (try clear c73); (try clear c73b0); (try clear c74); (try clear c74b0); (try clear c74b1); (try clear c75); (try clear c75b0); (try clear c75b1); (try clear c76); (try clear c76b0); (try clear c76b1); (try clear c77); (try clear c77b0); (try clear c77b1); (try clear c78); (try clear c78b0); (try clear c79); (try clear c79b0); (try clear c79b1); (try clear c80); (try clear c80b0); (try clear c81); (try clear c81b0); (try clear c81b1); (try clear c82); (try clear c85); (try clear c86); (try clear c87); (try clear c87b0); (try clear c88); (try clear c88b0); (try clear c88b1); (try clear c90); (try clear c111); (try clear c117); (try clear c117b0); (try clear c117b1); (try clear c117b2); (try clear c118); (try clear c118b0); (try clear c119); (try clear c119b0); (try clear c119b1); (try clear c119b2); (try clear c120); (try clear c120b0); (try clear c120b1); (try clear c121); (try clear c121b0); (try clear c121b1); (try clear c121b2); (try clear c123); (try clear c124); (try clear c124b0); (try clear c124b1); (try clear c124b2); (try clear c125); (try clear c130); (try clear c132); (try clear c133); (try clear c133b0); (try clear c134); (try clear c134b0); (try clear c135); (try clear c135b0); (try clear c136); (try clear c136b0); (try clear c137); (try clear c137b0); (try clear c152); (try clear c156); (try clear c156b0); (try clear c156b1); (try clear c156b2); (try clear c157); (try clear c157b0); (try clear c158); (try clear c158b0); (try clear c158b1); (try clear c158b2); (try clear c159); (try clear c159b0); (try clear c159b1); (try clear c160); (try clear c161); (try clear c164); (try clear c167); (try clear c168); (try clear hcz108_0); (try clear hcz108_1); (try clear hcz112_0); (try clear hcz112_1); (try clear hcz126_0); (try clear hcz126_1); (try clear hcz127_0); (try clear hcz127_1); (try clear hcz138_0); (try clear hcz138_1); (try clear hcz149_0); (try clear hcz149_1); (try clear hcz153_0); (try clear hcz153_1); (try clear hcz162_0); (try clear hcz162_1); (try clear hcz163_0); (try clear hcz163_1); (try clear hcz165_0); (try clear hcz165_1); (try clear hcz166_0); (try clear hcz166_1); (try clear hcz17_0); (try clear hcz17_1); (try clear hcz21_0); (try clear hcz21_1); (try clear hcz27_0); (try clear hcz27_1); (try clear hcz28_0); (try clear hcz28_1); (try clear hcz50_0); (try clear hcz50_1); (try clear hfz108_0); (try clear hfz108_1); (try clear hfz112_0); (try clear hfz112_1); (try clear hfz126_0); (try clear hfz126_1); (try clear hfz127_0); (try clear hfz127_1); (try clear hfz138_0); (try clear hfz138_1); (try clear hfz149_0); (try clear hfz149_1); (try clear hfz153_0); (try clear hfz153_1); (try clear hfz162_0); (try clear hfz162_1); (try clear hfz163_0); (try clear hfz163_1); (try clear hfz165_0); (try clear hfz165_1); (try clear hfz166_0); (try clear hfz166_1); (try clear hfz17_0); (try clear hfz17_1); (try clear hfz21_0); (try clear hfz21_1); (try clear hfz27_0); (try clear hfz27_1); (try clear hfz28_0); (try clear hfz28_1); (try clear hfz50_0); (try clear hfz50_1); (try clear p2); (try clear p6); (try clear p64)
     obtain ⟨x61_6, x62_6, rfl, rfl, HA, HK6, HB⟩ := hrel
     cases gk with
     | zero => exact absurd HA.out (by simp [laws_FnOrdersLikely.l1])
     | succ k6 =>
      have H := HA.out; clear HA
      simp only [laws_FnOrdersLikely.l1] at H
      by_cases c170 : x62_6 < t579
      ·
       rw [if_pos c170] at H; have c170b0 : decide (x62_6 < t579) = true := decide_eq_true c170; clear c170; have H' := Aside0.mk H; clear H
       go_wp2
       repeat (go_quiet (fail); try go_wp2)
       go_loopg [61, 63] k6 (fun kq v61 v63 w' => ∃ (x61_7 : Int) (x63_7 : Int), v61 = .int .i64 x61_7 ∧ v63 = .int .i64 x63_7 ∧ Aside0 (laws_FnOrdersLikely.l2 kq t579 t580 t596 t597 x61_7 x62_6 x63_7 = some r) ∧ Aside0 (kq ≤ k6) ∧ Aside0 (Below w.heap.size w w'))
       case atStart => exact ⟨(x61_6), (wrap64 (x62_6 + 1)), (by first | rfl | (simp; done) | (simp [*]; done)), (by first | rfl | (simp; done) | (simp [*]; done)), H', ⟨Nat.le_refl _⟩, ⟨Zl HB⟩⟩
       case round => as_aux_lemma =>
        (repeat (rename World.cell? _ _ = _ => z_; clear z_)); (repeat (rename World.frozen? _ _ = _ => z_; clear z_)); (repeat (rename @Ne Nat _ _ => z_; clear z_))
        clear H'; (try clear c1); (try clear c2); (try clear p2); (try clear c3); (try clear c4); (try clear c5); (try clear c6); (try clear p6); (try clear c7); (try clear c8); (try clear c9); (try clear c11); (try clear c12); (try clear c13); (try clear c15); (try clear c16); (try clear c17); (try clear c20); (try clear c22); (try clear c22b0); (try clear c22b1); (try clear c22b2); (try clear c23); (try clear c23b0); (try clear c23b1); (try clear c24); (try clear c24b0); (try clear c24b1); (try clear c24b2); (try clear c25); (try clear c25b0); (try clear c26); (try clear c29); (try clear c31); (try clear c43); (try clear c44); (try clear c44b0); (try clear c44b1); (try clear c45); (try clear c45b0); (try clear c45b1); (try clear c46); (try clear c47); (try clear c48); (try clear c49); (try clear c51); (try clear c53); (try clear c53b0); (try clear c54); (try clear c54b0); (try clear c54b1); (try clear c55); (try clear c55b0); (try clear c55b1); (try clear c56); (try clear c56b0); (try clear c56b1); (try clear c57); (try clear c57b0); (try clear c57b1); (try clear c58); (try clear c58b0); (try clear c59); (try clear c59b0); (try clear c59b1); (try clear c60); (try clear c60b0); (try clear c61); (try clear c61b0); (try clear c61b1); (try clear c62); (try clear c62b0); (try clear c62b1); (try clear c63); (try clear c63b0); (try clear c63b1); (try clear c64); (try clear c64b0); (try clear p64); (try clear c65); (try clear c65b0); (try clear c65b1); (try clear c66); (try clear c66b0); (try clear c67); (try clear c67b0); (try clear c67b1); (try clear c68); (try clear c68b0); (try clear c68b1); (try clear c69); (try clear c69b0); (try clear c69b1); (try clear c70); (try clear c70b0); (try clear c70b1); (try clear c71); (try clear c71b0); (try clear c72); (try clear c72b0); (try clear c72b1); (try clear c73); (try clear c73b0); (try clear c74); (try clear c74b0); (try clear c74b1); (try clear c75); (try clear c75b0); (try clear c75b1); (try clear c76); (try clear c76b0); (try clear c76b1); (try clear c77); (try clear c77b0); (try clear c77b1); (try clear c78); (try clear c78b0); (try clear c79); (try clear c79b0); (try clear c79b1); (try clear c80); (try clear c80b0); (try clear c81); (try clear c81b0); (try clear c81b1); (try clear c82); (try clear c85); (try clear c86); (try clear c87); (try clear c87b0); (try clear c88); (try clear c88b0); (try clear c88b1); (try clear c90); (try clear c111); (try clear c117); (try clear c117b0); (try clear c117b1); (try clear c117b2); (try clear c118); (try clear c118b0); (try clear c119); (try clear c119b0); (try clear c119b1); (try clear c119b2); (try clear c120); (try clear c120b0); (try clear c120b1); (try clear c121); (try clear c121b0); (try clear c121b1); (try clear c121b2); (try clear c123); (try clear c124); (try clear c124b0); (try clear c124b1); (try clear c124b2); (try clear c125); (try clear c130); (try clear c132); (try clear c133); (try clear c133b0); (try clear c134); (try clear c134b0); (try clear c135); (try clear c135b0); (try clear c136); (try clear c136b0); (try clear c137); (try clear c137b0); (try clear c152); (try clear c156); (try clear c156b0); (try clear c156b1); (try clear c156b2); (try clear c157); (try clear c157b0); (try clear c158); (try clear c158b0); (try clear c158b1); (try clear c158b2); (try clear c159); (try clear c159b0); (try clear c159b1); (try clear c160); (try clear c161); (try clear c164); (try clear c167); (try clear c168); (try clear c170); (try clear c170b0); (try clear hcz108_0); (try clear hcz108_1); (try clear hcz112_0); (try clear hcz112_1); (try clear hcz126_0); (try clear hcz126_1); (try clear hcz127_0); (try clear hcz127_1); (try clear hcz138_0); (try clear hcz138_1); (try clear hcz149_0); (try clear hcz149_1); (try clear hcz153_0); (try clear hcz153_1); (try clear hcz162_0); (try clear hcz162_1); (try clear hcz163_0); (try clear hcz163_1); (try clear hcz165_0); (try clear hcz165_1); (try clear hcz166_0); (try clear hcz166_1); (try clear hcz17_0); (try clear hcz17_1); (try clear hcz21_0); (try clear hcz21_1); (try clear hcz27_0); (try clear hcz27_1); (try clear hcz28_0); (try clear hcz28_1); (try clear hcz50_0); (try clear hcz50_1); (try clear hfz108_0); (try clear hfz108_1); (try clear hfz112_0); (try clear hfz112_1); (try clear hfz126_0); (try clear hfz126_1); (try clear hfz127_0); (try clear hfz127_1); (try clear hfz138_0); (try clear hfz138_1); (try clear hfz149_0); (try clear hfz149_1); (try clear hfz153_0); (try clear hfz153_1); (try clear hfz162_0); (try clear hfz162_1); (try clear hfz163_0); (try clear hfz163_1); (try clear hfz165_0); (try clear hfz165_1); (try clear hfz166_0); (try clear hfz166_1); (try clear hfz17_0); (try clear hfz17_1); (try clear hfz21_0); (try clear hfz21_1); (try clear hfz27_0); (try clear hfz27_1); (try clear hfz28_0); (try clear hfz28_1); (try clear hfz50_0); (try clear hfz50_1); (try clear p2); (try clear p6); (try clear p64)
        obtain ⟨x61_7, x63_7, rfl, rfl, HA, HK7, HB⟩ := hrel
        cases gk with
        | zero => exact absurd HA.out (by simp [laws_FnOrdersLikely.l2])
        | succ k7 =>
         have H := HA.out; clear HA
         simp only [laws_FnOrdersLikely.l2] at H
         by_cases c171 : x63_7 < t579
         ·
          rw [if_pos c171] at H; have c171b0 : decide (x63_7 < t579) = true := decide_eq_true c171; clear c171; replace H := Option.bind_eq_some_iff.mp H; obtain ⟨⟨t598, t599, t600⟩, A1720, H⟩ := H; (try dsimp only at H); have A172 := Aside0.mk A1720; clear A1720
          by_cases c173 : t600 = true
          ·
           subst c173
           rw [if_pos rfl] at H
           by_cases c174 : t599 = 0
           ·
            rw [if_pos c174] at H
            exact absurd H (by simp)
           · as_aux_lemma =>
            rw [if_neg c174] at H; have c174b0 : (t599 == 0) = false := beq_eq_false_iff_ne.mpr c174; have c174b1 : (t599 != 0) = true := bne_iff_ne.mpr c174; have H' := Aside0.mk H; clear H
            go_wp2_with (first | (go_at_call 24; (with_reducible refine (impl_MeanMeetings.calls k7 t579 t580 x62_6 x63_7 t598 t599 true _ A172.out).mono ?_); rintro e w175 ⟨rfl, hb⟩; replace HB := Zh HB hb; (try clear hb); (try clear hb2); (try clear hk); (try clear hi)) | ((with_reducible refine gate_dst (N := 64) rfl ?_); refine box_event ?hg (N := 64) ?hd (cs := #[.int .i64 0, .int .i64 0]) (t := 30) ?hr ?_; (case hd => rfl); (case hg => rfl); (case hr => first | (go_simp; done) | (go_simp; rfl)); intro gb601 hg w176 hbox hb; have BK601 := Zm (hbox); have GW601 := Zx hg HB; have GE601 := Zx hg HB; replace HB := Zh HB hb; clear hb hbox hg; have hcz177_0 : w176.cell? ⟨gb601, 0, none⟩ = some (.int .i64 0) := (blk_cell BK601.out 0).trans rfl; have hcz177_1 : w176.cell? ⟨gb601, 1, none⟩ = some (.int .i64 0) := (blk_cell BK601.out 1).trans rfl; have hfz177_0 := blk_frozen BK601.out 0; have hfz177_1 := blk_frozen BK601.out 1))
            repeat (go_quiet (fail); try go_wp2)
            go_roundg k7
            case measure => have := HJ9.out; have := HJ29.out; have := HJ103.out; have := HJ130.out; have := HJ144.out; have := HK6.out; have := HK7.out; omega
            case rel => exact ⟨(wrap64 (x61_7 + (wrap64 (t598 * (wrap64 (Int.tdiv t596 t599)))))), (wrap64 (x63_7 + 1)), (by first | rfl | (simp; done) | (simp [*]; done)), (by first | rfl | (simp; done) | (simp [*]; done)), H', ⟨by have := HJ9.out; have := HJ29.out; have := HJ103.out; have := HJ130.out; have := HJ144.out; have := HK6.out; have := HK7.out; omega⟩, ⟨Zl HB⟩⟩
          ·
           replace c173 := Bool.eq_false_iff.mpr c173
           subst c173
           rw [if_neg Bool.false_ne_true] at H
           exact absurd H (by simp)
         · as_aux_lemma =>
          rw [if_neg c171] at H; have c171b0 : decide (x63_7 < t579) = false := decide_eq_false c171; clear c171; have H' := Aside0.mk H; clear H
          go_wp2
          repeat (go_quiet (fail); try go_wp2)
          go_roundg k7
          case measure => have := HJ9.out; have := HJ29.out; have := HJ103.out; have := HJ130.out; have := HJ144.out; have := HK6.out; have := HK7.out; omega
          case rel => exact ⟨(x61_7), (wrap64 (x62_6 + 1)), (by first | rfl | (simp; done) | (simp [*]; done)), (by first | rfl | (simp; done) | (simp [*]; done)), H', ⟨by have := HJ9.out; have := HJ29.out; have := HJ103.out; have := HJ130.out; have := HJ144.out; have := HK6.out; have := HK7.out; omega⟩, ⟨Zl HB⟩⟩
      ·
       rw [if_neg c170] at H; have c170b0 : decide (x62_6 < t579) = false := decide_eq_false c170; clear c170
       by_cases c178 : t597 = true
       · as_aux_lemma =>
        subst c178
        rw [if_pos rfl] at H
        obtain rfl := Option.some.inj H
        go_wp2
        repeat (go_quiet (fail); try go_wp2)
        go_ret
        exact ⟨by first | rfl | (simp [errW_none, errW_some] <;> rfl) | (simp [*, errW_none, errW_some] <;> rfl), Zl HB⟩
       ·
        replace c178 := Bool.eq_false_iff.mpr c178
        subst c178
        rw [if_neg Bool.false_ne_true] at H
        exact absurd H (by simp)
   · as_aux_lemma =>
    replace c168 := Bool.eq_false_iff.mpr c168
    subst c168
    rw [if_neg Bool.false_ne_true] at H
    obtain rfl := Option.some.inj H
    go_wp2
    repeat (go_quiet (fail); try go_wp2)
    go_ret
    exact ⟨by first | rfl | (simp [errW_none, errW_some] <;> rfl) | (simp [*, errW_none, errW_some] <;> rfl), Zl HB⟩

end Go.Proofs.Ytabobnlpcapohaa.Q
