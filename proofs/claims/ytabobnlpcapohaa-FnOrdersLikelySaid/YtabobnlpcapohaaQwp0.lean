/- Each function below comes to the Lean function beside it (theorems '.calls'); no condition beyond each theorem's own. Written by our program oprint.py over the kit's print. -/
import Derived.Test.YtabobnlpcapohaaQwParts
import Derived.Test.YtabobnlpcapohaaQm10
import Derived.Test.YtabobnlpcapohaaQm0
import Derived.Test.YtabobnlpcapohaaQm1
import Derived.Test.YtabobnlpcapohaaQm2
import Derived.Test.YtabobnlpcapohaaQm3
import Derived.Test.YtabobnlpcapohaaQm4
import Derived.Test.YtabobnlpcapohaaQm5
import Derived.Test.YtabobnlpcapohaaQm6
import Derived.Test.YtabobnlpcapohaaQm7
import Derived.Test.YtabobnlpcapohaaQm8
import Derived.Test.YtabobnlpcapohaaQm9
namespace Go.Proofs.Ytabobnlpcapohaa.Q
open Go.RowKit Go.Proofs.YtabobnlpcapohaaW.PrintWords Go.Proofs.YtabobnlpcapohaaW.PrintLast Go.Proofs.YtabobnlpcapohaaW.PrintMore
attribute [local go_sem] max2_int min2_int max_two min_two max_three min_three max_four min_four
set_option linter.unusedVariables false
set_option linter.unusedSimpArgs false

attribute [local go_sem high] eqA30
set_option maxHeartbeats 8000000 in
set_option maxRecDepth 100000 in
def laws_FnOrdersLikely_p0 : Part1 (∀ (k : Nat) (A0 : Option Addr) (c0 : Nat) (l0 : List Int) (A1 : Option Addr) (c1 : Nat) (l1 : List Int) (r : Bool) (w : World) (hr0 : Kd.C (Kd.int .u8) w A0 l0.length l0) (hc0 : l0.length ≤ c0) (hr1 : Kd.C (Kd.int .u8) w A1 l1.length l1) (hc1 : l1.length ≤ c1) (h : laws_FnOrdersLikely.f k l0 l1 = some r),
  Calls Try.prog 3 #[.slice A0 l0.length c0, .slice A1 l1.length c1] w fun e w' => e = .returned (.bool r) ∧ Below w.heap.size w w') := by
 refine Part1.mk ?Q1 (fun hq1 => ?main)
 case main =>
  intro k A0 c0 l0 A1 c1 l1 r w hr0 hc0 hr1 hc1 h
  have hu30 := Try.underlying30; have HR0 := Aside0.mk hr0; have HC0 := Aside0.mk hc0; clear hr0 hc0; have HR1 := Aside0.mk hr1; have HC1 := Aside0.mk hc1; clear hr1 hc1; have HB := Zm (Below.refl w.heap.size w); have H : ((laws_big.f l0 l1).bind fun t519 => (if t519 = true then (some true) else ((spec_DrawCountForOrder.f k l0).bind fun bt520 => ((impl_CountForOrder.f k bt520.1 bt520.2.1 bt520.2.2).bind fun bt525 => ((spec_CountForOrder.f k bt520.1 bt520.2.1 bt520.2.2).bind fun bt527 => ((impl_ChanceOfOrder.f k bt520.1 bt520.2.1 bt520.2.2).bind fun bt529 => ((spec_ChanceOfOrder.f k bt520.1 bt520.2.1 bt520.2.2).bind fun bt533 => (if (bt525.2 != bt527.2) = true then (none) else (if bt525.1 = bt527.1 then (if (bt529.2.2 != bt533.2.2) = true then (none) else (if (!(bt529.1 == bt533.1) || (!(bt529.2.1 == bt533.2.1))) = true then (none) else (laws_FnOrdersLikely.j0 k l1 bt520.1 bt520.2.1 bt520.2.2 bt525.1 bt525.2 (bt529.2.2 != bt525.2) bt529.1 bt529.2.1))) else (none)))))))))) = some r := h; clear h
  replace H := Option.bind_eq_some_iff.mp H; obtain ⟨t519, A30, H⟩ := H; (try dsimp only at H); have A3 := Aside0.mk A30; clear A30
  by_cases c4 : t519 = true
  · as_aux_lemma =>
   subst c4
   rw [if_pos rfl] at H
   obtain rfl := Option.some.inj H
   go_enter Try.func3, Try.ntmps3
   go_wp2_with (first | (go_at_call 4; (with_reducible refine (laws_big.calls _ _ l0 _ _ l1 true _ ?side1 ?side2 ?side3 ?side4 A3.out).mono ?_); (case side1 => repeat (first | exact HR0.out | (with_reducible refine Kd.C_alloc ?_ _) | (with_reducible refine Kd.C_drewN ?_ _) | (with_reducible refine Kd.C_drew ?_))); (case side2 => exact HC0.out); (case side3 => repeat (first | exact HR1.out | (with_reducible refine Kd.C_alloc ?_ _) | (with_reducible refine Kd.C_drewN ?_ _) | (with_reducible refine Kd.C_drew ?_))); (case side4 => exact HC1.out); rintro e w' ⟨rfl, ⟨nd, rfl⟩⟩; (try first | exact ⟨rfl, _, World.drewN_drewN _ _ _⟩ | exact ⟨rfl, _, Eq.trans (World.drewN_drewN _ _ _) (congrArg (World.drewN _) (Nat.add_assoc _ _ _))⟩)))
   repeat (go_quiet (fail); try go_wp2)
   go_ret
   exact ⟨by first | rfl | (simp [errW_none, errW_some] <;> rfl) | (simp [*, errW_none, errW_some] <;> rfl), Zl HB⟩
  ·
   replace c4 := Bool.eq_false_iff.mpr c4
   subst c4
   rw [if_neg Bool.false_ne_true] at H
   replace H := Option.bind_eq_some_iff.mp H; obtain ⟨⟨t520, t521, t522⟩, A50, H⟩ := H; (try dsimp only at H); have A5 := Aside0.mk A50; clear A50; replace H := Option.bind_eq_some_iff.mp H; obtain ⟨⟨t525, t526⟩, A60, H⟩ := H; (try dsimp only at H); have A6 := Aside0.mk A60; clear A60; replace H := Option.bind_eq_some_iff.mp H; obtain ⟨⟨t527, t528⟩, A70, H⟩ := H; (try dsimp only at H); have A7 := Aside0.mk A70; clear A70; replace H := Option.bind_eq_some_iff.mp H; obtain ⟨⟨t529, t530, t531⟩, A80, H⟩ := H; (try dsimp only at H); have A8 := Aside0.mk A80; clear A80; replace H := Option.bind_eq_some_iff.mp H; obtain ⟨⟨t533, t534, t535⟩, A90, H⟩ := H; (try dsimp only at H); have A9 := Aside0.mk A90; clear A90; have HC10 := Aside0.mk H; clear H
   go_enter Try.func3, Try.ntmps3
   go_upto_region 8 with (first | (go_at_call 4; (with_reducible refine (laws_big.calls _ _ l0 _ _ l1 false _ ?side1 ?side2 ?side3 ?side4 A3.out).mono ?_); (case side1 => repeat (first | exact HR0.out | (with_reducible refine Kd.C_alloc ?_ _) | (with_reducible refine Kd.C_drewN ?_ _) | (with_reducible refine Kd.C_drew ?_))); (case side2 => exact HC0.out); (case side3 => repeat (first | exact HR1.out | (with_reducible refine Kd.C_alloc ?_ _) | (with_reducible refine Kd.C_drewN ?_ _) | (with_reducible refine Kd.C_drew ?_))); (case side4 => exact HC1.out); rintro e w' ⟨rfl, ⟨nd, rfl⟩⟩; (try first | exact ⟨rfl, _, World.drewN_drewN _ _ _⟩ | exact ⟨rfl, _, Eq.trans (World.drewN_drewN _ _ _) (congrArg (World.drewN _) (Nat.add_assoc _ _ _))⟩)) | (go_at_call 5; (with_reducible refine (spec_DrawCountForOrder.calls k _ _ l0 t520 t521 t522 _ ?side1 ?side2 A5.out).mono ?_); (case side1 => repeat (first | exact HR0.out | (with_reducible refine Kd.C_alloc ?_ _) | (with_reducible refine Kd.C_drewN ?_ _) | (with_reducible refine Kd.C_drew ?_))); (case side2 => exact HC0.out); rintro e w11 ⟨v523, rfl, ho0, hb⟩; have HO524 := Zj ho0 HB; replace HB := Zh HB hb; (try clear hb); (try clear ho0); obtain ⟨Ao12, co12, eo12⟩ := Kd.R_slice HO524.out; subst eo12) | (go_at_call 6; (with_reducible refine (impl_CountForOrder.calls k t520 t521 _ _ t522 t525 t526 _ ?side1 ?side2 A6.out).mono ?_); (case side1 => repeat (first | exact (Kd.R_reads' HO524.out).2.2 | (with_reducible refine Kd.C_alloc ?_ _) | (with_reducible refine Kd.C_drewN ?_ _) | (with_reducible refine Kd.C_drew ?_))); (case side2 => exact (Kd.R_reads' HO524.out).2.1); rintro e w13 ⟨rfl, hb⟩; replace HO524 := Zo HO524 hb; replace HB := Zh HB hb; (try clear hb); (try clear hb2); (try clear hk); (try clear hi)) | (go_at_call 7; (with_reducible refine (spec_CountForOrder.calls k t520 t521 _ _ t522 t527 t528 _ ?side1 ?side2 A7.out).mono ?_); (case side1 => repeat (first | exact (Kd.R_reads' HO524.out).2.2 | (with_reducible refine Kd.C_alloc ?_ _) | (with_reducible refine Kd.C_drewN ?_ _) | (with_reducible refine Kd.C_drew ?_))); (case side2 => exact (Kd.R_reads' HO524.out).2.1); rintro e w14 ⟨rfl, hb⟩; replace HO524 := Zo HO524 hb; replace HB := Zh HB hb; (try clear hb); (try clear hb2); (try clear hk); (try clear hi)) | (go_at_call 8; (with_reducible refine (impl_ChanceOfOrder.calls k t520 t521 _ _ t522 t529 t530 t531 _ ?side1 ?side2 A8.out).mono ?_); (case side1 => repeat (first | exact (Kd.R_reads' HO524.out).2.2 | (with_reducible refine Kd.C_alloc ?_ _) | (with_reducible refine Kd.C_drewN ?_ _) | (with_reducible refine Kd.C_drew ?_))); (case side2 => exact (Kd.R_reads' HO524.out).2.1); rintro e w15 ⟨rfl, hb⟩; replace HO524 := Zo HO524 hb; replace HB := Zh HB hb; (try clear hb); (try clear hb2); (try clear hk); (try clear hi)) | ((with_reducible refine gate_dst (N := 12) rfl ?_); refine box_event ?hg (N := 12) ?hd (cs := #[.int .i64 0, .int .i64 0]) (t := 30) ?hr ?_; (case hd => rfl); (case hg => rfl); (case hr => first | (go_simp; done) | (go_simp; rfl)); intro gb532 hg w16 hbox hb; replace HO524 := Zo HO524 hb; have BK532 := Zm (hbox); have GW532 := Zx hg HB; have GE532 := Zx hg HB; replace HB := Zh HB hb; clear hb hbox hg; have hcz17_0 : w16.cell? ⟨gb532, 0, none⟩ = some (.int .i64 0) := (blk_cell BK532.out 0).trans rfl; have hcz17_1 : w16.cell? ⟨gb532, 1, none⟩ = some (.int .i64 0) := (blk_cell BK532.out 1).trans rfl; have hfz17_0 := blk_frozen BK532.out 0; have hfz17_1 := blk_frozen BK532.out 1) | (go_at_call 9; (with_reducible refine (spec_ChanceOfOrder.calls k t520 t521 _ _ t522 t533 t534 t535 _ ?side1 ?side2 A9.out).mono ?_); (case side1 => refine (Kd.R_reads' (e := 3) (base := w.heap.size) (ok := fun k_ => True) (n := t522.length) (c := co12) ?_).2.2; exact (Zy HO524 BK532)); (case side2 => exact (Kd.R_reads' HO524.out).2.1); rintro e w18 ⟨rfl, hb⟩; replace HO524 := Zm (Kd.R_below (Zy HO524 BK532) hb); replace BK532 := Zm (blk_below (g := gb532) (o := .cells #[.int .i64 t529, .int .i64 t530] 30 (0, 0)) (by (with_reducible repeat (first | refine blk_drewN ?_ _ | refine blk_drew ?_ | refine blk_alloc ?_ _)); refine blk_put (cs := #[.int .i64 t529, .int .i64 0]) ?_ 1 _ rfl; (with_reducible repeat (first | refine blk_drewN ?_ _ | refine blk_drew ?_ | refine blk_alloc ?_ _)); refine blk_put (cs := #[.int .i64 0, .int .i64 0]) ?_ 0 _ rfl; (with_reducible repeat (first | refine blk_drewN ?_ _ | refine blk_drew ?_ | refine blk_alloc ?_ _)); exact BK532.out) hb); replace HB := Zh HB hb; (try clear hb); (try clear hb2); (try clear hk); (try clear hi)) | ((with_reducible refine gate_dst (N := 14) rfl ?_); refine box_event ?hg (N := 14) ?hd (cs := #[.int .i64 0, .int .i64 0]) (t := 30) ?hr ?_; (case hd => rfl); (case hg => rfl); (case hr => first | (go_simp; done) | (go_simp; rfl)); intro gb536 hg w19 hbox hb; replace HO524 := Zo HO524 hb; have BK536 := Zm (hbox); have GW536 := Zx hg HB; have GE536 := Zx hg HB; replace HB := Zh HB hb; have NB532_536 := Zq hg BK532; have NB536_532 := Zp hg BK532; replace BK532 := Zk BK532 hb; clear hb hbox hg; have hnb20 := NB536_532.out; have hnc20 := NB532_536.out; have hcz21_0 : w19.cell? ⟨gb536, 0, none⟩ = some (.int .i64 0) := (blk_cell BK536.out 0).trans rfl; have hcz21_1 : w19.cell? ⟨gb536, 1, none⟩ = some (.int .i64 0) := (blk_cell BK536.out 1).trans rfl; have hfz21_0 := blk_frozen BK536.out 0; have hfz21_1 := blk_frozen BK536.out 1))
   repeat (go_quiet (fail); try go_wp2)
   (try simp only [Act.put, List.setIfInBounds_toArray, List.set_cons_zero, List.set_cons_succ])
   go_cut [125] (fun v125 wc => ∃ (kq : Nat) (x125_9 : Bool), v125 = .bool x125_9 ∧ Aside0 (laws_FnOrdersLikely.j0 kq l1 t520 t521 t522 t525 t526 x125_9 t529 t530 = some r) ∧ Aside0 (kq ≤ k) ∧ Aside0 (Kd.R (Kd.int .i64) 3 wc w.heap.size (fun _ => True) (.slice Ao12 t522.length co12) t522) ∧ Aside0 (wc.heap[gb532]? = some (.cells #[.int .i64 t529, .int .i64 t530] 30 (0, 0))) ∧ Aside0 (Below w.heap.size w wc))
   case first => as_aux_lemma =>
    (repeat (rename World.cell? _ _ = _ => z_; clear z_)); (repeat (rename World.frozen? _ _ = _ => z_; clear z_))
    have H := HC10.out; clear HC10
    by_cases c22 : (t526 != t528) = true
    ·
     rw [if_pos c22] at H
     exact absurd H (by simp)
    ·
     rw [if_neg c22] at H; obtain ⟨c22b0, c22b1, c22b2⟩ := Zd c22; clear c22
     (first | rw [c22b0] | (simp only [i64_w, i32_w]; rw [c22b0]) | skip)
     by_cases c23 : t525 = t527
     ·
      rw [if_pos c23] at H; have c23b0 : (t525 == t527) = true := beq_iff_eq.mpr c23; have c23b1 : (t525 != t527) = false := bne_eq_false_iff_eq.mpr c23; clear c23
      by_cases c24 : (t531 != t535) = true
      ·
       rw [if_pos c24] at H
       exact absurd H (by simp)
      ·
       rw [if_neg c24] at H; obtain ⟨c24b0, c24b1, c24b2⟩ := Zd c24; clear c24
       by_cases c25 : (!(t529 == t533) || (!(t530 == t534))) = true
       ·
        rw [if_pos c25] at H
        exact absurd H (by simp)
       · as_aux_lemma =>
        rw [if_neg c25] at H; (have c25b0 : (!(t529 == t533) || (!(t530 == t534))) = false := by simpa using c25); clear c25; have H' := Aside0.mk H; clear H; have hnb26 := NB532_536.out; have hnc26 := NB536_532.out; have hcz27_0 : w19.cell? ⟨gb532, 0, none⟩ = some (.int .i64 t529) := (blk_cell BK532.out 0).trans rfl; have hcz27_1 : w19.cell? ⟨gb532, 1, none⟩ = some (.int .i64 t530) := (blk_cell BK532.out 1).trans rfl; have hfz27_0 := blk_frozen BK532.out 0; have hfz27_1 := blk_frozen BK532.out 1; have hcz28_0 : w19.cell? ⟨gb536, 0, none⟩ = some (.int .i64 0) := (blk_cell BK536.out 0).trans rfl; have hcz28_1 : w19.cell? ⟨gb536, 1, none⟩ = some (.int .i64 0) := (blk_cell BK536.out 1).trans rfl; have hfz28_0 := blk_frozen BK536.out 0; have hfz28_1 := blk_frozen BK536.out 1
        go_wp2
        repeat (go_quiet (fail); try go_wp2)
        go_meet
        case rel => exact ⟨_, ((t531 != t526)), (by first | rfl | (simp; done) | (simp [*]; done)), H', ⟨by first | omega | exact Nat.le_refl _⟩, ⟨by (with_reducible repeat (first | apply Kd.R_alloc | apply Kd.R_drewN | apply Kd.R_drew)); exact Kd.R_mono (Kd.R_far (p := ⟨gb536, 1, none⟩) (Kd.R_far (p := ⟨gb536, 0, none⟩) (Kd.R_types HO524.out BK536.out (by decide)) (fun _ hk => hk.2) (.int .i64 t533)) (fun _ hk => hk.2) (.int .i64 t534)) (fun _ hk => trivial)⟩, ⟨by (with_reducible repeat (first | refine blk_drewN ?_ _ | refine blk_drew ?_ | refine blk_alloc ?_ _)); refine blk_far ?_ NB532_536.out _; (with_reducible repeat (first | refine blk_drewN ?_ _ | refine blk_drew ?_ | refine blk_alloc ?_ _)); refine blk_far ?_ NB532_536.out _; (with_reducible repeat (first | refine blk_drewN ?_ _ | refine blk_drew ?_ | refine blk_alloc ?_ _)); exact BK532.out⟩, ⟨Zl HB⟩⟩
     ·
      rw [if_neg c23] at H
      exact absurd H (by simp)
   case rest =>
    (repeat (rename World.cell? _ _ = _ => z_; clear z_)); (repeat (rename World.frozen? _ _ = _ => z_; clear z_)); (repeat (rename @Ne Nat _ _ => z_; clear z_))
    revert k A0 c0 l0 A1 c1 l1 r w hu30 HR0 HC0 HR1 HC1 A3 t520 t521 t522 A5 t525 t526 A6 t527 t528 A7 t529 t530 t531 A8 t533 t534 t535 A9 HC10 nd w11 Ao12 co12 w13 w14 w15 gb532 w16 GW532 GE532 w18 gb536 w19 HO524 BK536 GW536 GE536 HB NB532_536 NB536_532 BK532 wc hcut; iterate 425 (rename _ => z_; revert z_)
    exact hq1.out

end Go.Proofs.Ytabobnlpcapohaa.Q
