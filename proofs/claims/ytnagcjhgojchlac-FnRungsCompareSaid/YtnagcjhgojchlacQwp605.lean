/- Each function below comes to the Lean function beside it (theorems '.calls'); no condition beyond each theorem's own. Written by our program oprint.py over the kit's print. -/
import Derived.Test.YtnagcjhgojchlacQwp584

namespace Go.Proofs.Ytnagcjhgojchlac.Q
open Go.RowKit Go.Proofs.YtnagcjhgojchlacW.PrintWords Go.Proofs.YtnagcjhgojchlacW.PrintLast Go.Proofs.YtnagcjhgojchlacW.PrintMore
attribute [local go_sem] max2_int min2_int max_two min_two max_three min_three max_four min_four   -- for this text's walks alone
set_option linter.unusedVariables false
set_option linter.unusedSimpArgs false

set_option maxHeartbeats 8000000 in
set_option maxRecDepth 100000 in
def laws_FnRungsCompare_p605 : Part2 (laws_FnRungsCompare_p584.Q1) := by
 refine Part2.mk ?Q1 ?Q2 (fun hq1 hq2 => ?main)
 case main =>
  iterate 1525 (intro _)
  intro k A0 c0 l0 A1 c1 l1 r w hu26 HR0 HC0 HR1 HC1 A3 t467 t468 t471 A5 t475 t478 A6 t479 t482 A7 t483 t486 A8 t487 t490 A9 _ nd w11 gb474 w12 GW474 GE474 Ao14 co14 Ao15 co15 w16 v476 w18 v480 w20 v484 w22 v488 HO489 HO470 HO473 HO477 HO481 HO485 _ _ kj9 HJ9 t493 t494 A34 t495 t496 A35 w38 w40 _ _ _ _ _ _ HO_6 HO_7 HO_11 HO_475001 BK474 _ kj35 HJ35 kj46 HJ46 t520 t521 A109 t525 t526 A110 t527 t528 A111 t529 t530 A112 t531 t532 A113 t533 t536 A114 t537 t540 A115 t541 t542 A116 t543 t544 A117 w119 gb524 w120 GW524 GE524 Ao122 co122 w123 w125 w127 w129 w131 v534 w133 v538 w135 w137 HO523 HO535 HO539 _ _ wc HO_43 HO_525001 BK524 HB kj117 HJ117 HC156 _ _
  have H := HC156.out; clear HC156
  by_cases c157 : t526 = true
  ·
   subst c157
   rw [if_pos rfl] at H
   have H' := Aside0.mk H; clear H; have hcz158_0 : wc.cell? ⟨gb524, 0, none⟩ = some (.int .i64 t520) := (blk_cell BK524.out 0).trans rfl; have hcz158_1 : wc.cell? ⟨gb524, 1, none⟩ = some (.slice Ao122 t521.length co122) := (blk_cell BK524.out 1).trans rfl; have hfz158_0 := blk_frozen BK524.out 0; have hfz158_1 := blk_frozen BK524.out 1
   go_wp2
   go_loopg [51, 52] kj117 (fun kq v51 v52 w' => ∃ (x51_5 : List Int) (x52_5 : Int), v52 = .int .i64 x52_5 ∧ Aside0 (laws_FnRungsCompare.l4 kq t525 t529 t533 t536 t541 t542 x51_5 x52_5 t520 t521 = some r) ∧ Aside0 (kq ≤ kj117) ∧ Aside0 (Kd.R (Kd.int .i64) 3 w' w.heap.size (fun k_ => Zn k_ v51 ∧ Zn k_ (.slice Ao122 t521.length co122)) v534 t533) ∧ Aside0 (Kd.R (Kd.int .i64) 3 w' w.heap.size (fun k_ => Zn k_ v534 ∧ Zn k_ (.slice Ao122 t521.length co122)) v51 x51_5) ∧ Aside0 (Kd.R (Kd.int .i64) 3 w' w.heap.size (fun k_ => Zn k_ v534 ∧ Zn k_ v51) (.slice Ao122 t521.length co122) t521) ∧ Aside0 (w'.heap[gb524]? = some (.cells #[.int .i64 t520, (.slice Ao122 t521.length co122)] 26 (0, 0))) ∧ Aside0 (Below w.heap.size w w'))
   case atStart => exact ⟨(([] : List Int)), (wrap64 (t520 - 1)), (by first | rfl | (simp; done) | (simp [*]; done)), H', ⟨Nat.le_refl _⟩, ⟨Zc HO_43 (by intro k_ hk_; revert hk_; (try simp only [and_imp]); intros; and_intros <;> first | assumption | simp [Zn, Value.ownBlock])⟩, ⟨by first | exact Kd.R_nil _ _ _ _ _ | exact Kd.N_nil _ _ _ _ _ | exact Kd.V_nil _ _ _ _ _ | exact Kd.Q_nil _ _ _ _ _ | exact Kd.S_nil _ _ _ _ _⟩, ⟨Zc HO_525001 (by intro k_ hk_; revert hk_; (try simp only [and_imp]); intros; and_intros <;> first | assumption | simp [Zn, Value.ownBlock])⟩, ⟨Zb BK524⟩, ⟨Zl HB⟩⟩
   case round =>
    (repeat (rename World.cell? _ _ = _ => z_; clear z_)); (repeat (rename World.frozen? _ _ = _ => z_; clear z_)); (repeat (rename @Ne Nat _ _ => z_; clear z_))
    clear H'; (try clear c1); (try clear c2); (try clear p2); (try clear c3); (try clear c4); (try clear c5); (try clear p5); (try clear q5); (try clear hx5); (try clear c6); (try clear p6); (try clear c7); (try clear c8); (try clear c9); (try clear c10); (try clear c11); (try clear c12); (try clear c13); (try clear c14); (try clear c15); (try clear c17); (try clear c18); (try clear c19); (try clear c20); (try clear c21); (try clear c22); (try clear c23); (try clear c23b0); (try clear c23b1); (try clear c23b2); (try clear c24); (try clear c25); (try clear c26); (try clear c26b0); (try clear c26b1); (try clear c26b2); (try clear c28); (try clear c33); (try clear c41); (try clear c41b0); (try clear c41b1); (try clear c41b2); (try clear c42); (try clear c42b0); (try clear c42b1); (try clear c42b2); (try clear c46); (try clear c48); (try clear p51); (try clear q51); (try clear hx51); (try clear c58); (try clear c62); (try clear c62b0); (try clear c62b1); (try clear c62b2); (try clear c63); (try clear p64); (try clear c65); (try clear c66); (try clear c67); (try clear c68); (try clear c70); (try clear c73); (try clear c77); (try clear c78); (try clear c79); (try clear c81); (try clear c84); (try clear c88); (try clear c90); (try clear c90b0); (try clear c91); (try clear c91b0); (try clear c92); (try clear c92b0); (try clear c94); (try clear c96); (try clear c96b0); (try clear c97); (try clear c97b0); (try clear c98); (try clear c98b0); (try clear c99); (try clear c99b0); (try clear c100); (try clear c100b0); (try clear c101); (try clear c101b0); (try clear c102); (try clear c102b0); (try clear c102b1); (try clear c104); (try clear c104b0); (try clear c105); (try clear c105b0); (try clear c106); (try clear c106b0); (try clear c107); (try clear c107b0); (try clear c107b1); (try clear c108); (try clear c108b0); (try clear c108b1); (try clear c138); (try clear c138b0); (try clear c138b1); (try clear c138b2); (try clear c139); (try clear c139b0); (try clear c139b1); (try clear c139b2); (try clear c140); (try clear c140b0); (try clear c140b1); (try clear c140b2); (try clear c141); (try clear c141b0); (try clear c141b1); (try clear c142); (try clear c142b0); (try clear c142b1); (try clear c142b2); (try clear c144); (try clear c145); (try clear c145b0); (try clear c145b1); (try clear c145b2); (try clear c146); (try clear c146b0); (try clear c146b1); (try clear c147); (try clear c147b0); (try clear c147b1); (try clear c147b2); (try clear c148); (try clear c149); (try clear c149b0); (try clear c149b1); (try clear c149b2); (try clear c152); (try clear c152b0); (try clear c152b1); (try clear c152b2); (try clear c155); (try clear c157); (try clear hcz121_0); (try clear hcz121_1); (try clear hcz124_0); (try clear hcz124_1); (try clear hcz126_0); (try clear hcz126_1); (try clear hcz128_0); (try clear hcz128_1); (try clear hcz130_0); (try clear hcz130_1); (try clear hcz132_0); (try clear hcz132_1); (try clear hcz134_0); (try clear hcz134_1); (try clear hcz136_0); (try clear hcz136_1); (try clear hcz13_0); (try clear hcz13_1); (try clear hcz158_0); (try clear hcz158_1); (try clear hcz17_0); (try clear hcz17_1); (try clear hcz19_0); (try clear hcz19_1); (try clear hcz21_0); (try clear hcz21_1); (try clear hcz37_0); (try clear hcz37_1); (try clear hcz39_0); (try clear hcz39_1); (try clear hcz44_0); (try clear hcz44_1); (try clear hcz53_0); (try clear hcz53_1); (try clear hcz55_0); (try clear hcz55_1); (try clear hcz59_0); (try clear hcz59_1); (try clear hcz74_0); (try clear hcz74_1); (try clear hcz76_0); (try clear hcz76_1); (try clear hcz85_0); (try clear hcz85_1); (try clear hcz87_0); (try clear hcz87_1); (try clear hfz121_0); (try clear hfz121_1); (try clear hfz124_0); (try clear hfz124_1); (try clear hfz126_0); (try clear hfz126_1); (try clear hfz128_0); (try clear hfz128_1); (try clear hfz130_0); (try clear hfz130_1); (try clear hfz132_0); (try clear hfz132_1); (try clear hfz134_0); (try clear hfz134_1); (try clear hfz136_0); (try clear hfz136_1); (try clear hfz13_0); (try clear hfz13_1); (try clear hfz158_0); (try clear hfz158_1); (try clear hfz17_0); (try clear hfz17_1); (try clear hfz19_0); (try clear hfz19_1); (try clear hfz21_0); (try clear hfz21_1); (try clear hfz37_0); (try clear hfz37_1); (try clear hfz39_0); (try clear hfz39_1); (try clear hfz44_0); (try clear hfz44_1); (try clear hfz53_0); (try clear hfz53_1); (try clear hfz55_0); (try clear hfz55_1); (try clear hfz59_0); (try clear hfz59_1); (try clear hfz74_0); (try clear hfz74_1); (try clear hfz76_0); (try clear hfz76_1); (try clear hfz85_0); (try clear hfz85_1); (try clear hfz87_0); (try clear hfz87_1); (try clear hx515_0); (try clear hx517_0); (try clear hx518_0); (try clear hx519_0); (try clear p2); (try clear p5); (try clear p51); (try clear p515); (try clear p517); (try clear p518); (try clear p519); (try clear p6); (try clear p64); (try clear q5); (try clear q51); (try clear q515); (try clear q517); (try clear q518); (try clear q519)
    obtain ⟨x51_5, x52_5, rfl, HA, HK5, HO_43, HO_51, HO_525001, BK524, HB⟩ := hrel
    cases gk with
    | zero => exact absurd HA.out (by simp [laws_FnRungsCompare.l4])
    | succ k5 =>
     have H := HA.out; clear HA
     simp only [laws_FnRungsCompare.l4] at H
     by_cases c159 : x52_5 ≥ 0
     ·
      rw [if_pos c159] at H; have c159b0 : decide (0 ≤ x52_5) = true := decide_eq_true c159; clear c159
      (first | rw [c159b0] | (simp only [i64_w, i32_w]; rw [c159b0]) | skip)
      by_cases c160 : x51_5.length < 17592186044416
      · as_aux_lemma =>
       rw [if_pos c160] at H
       have LMc160 := Aside0.mk c160; clear c160
       obtain ⟨y546, hy546⟩ : ∃ y_ : List Int, y_ = (x51_5 ++ [x52_5]) := ⟨_, rfl⟩; (replace H : (laws_FnRungsCompare.l4 k5 t525 t529 t533 t536 t541 t542 y546 (wrap64 (x52_5 - 1)) t520 t521) = some r := by first | (rw [hy546]; with_reducible exact H) | (have H2_ := (Option.bind_some _ _).symm.trans H; rw [hy546]; with_reducible exact H2_) | (have H2_ := (Option.bind_some _ _).symm.trans H; with_reducible exact H2_) | with_reducible exact H | (rw [hy546]; exact H) | exact H)
       have Ny546 := Aside0.mk hy546; clear hy546; have H' := Aside0.mk H; clear H
       go_wp2_with (first | ((with_reducible refine gate_builtin (b := .append) (xs := #[.tmp 356, .tmp 358]) rfl ?_); (try (refine gate_guard (by rfl) ?_; dsimp only)); at_builtin; refine Kd.R_append (Kd.int .i64) (w0 := w) w.heap.size rfl (.tmp 356) (.tmp 358) 24 3 (.int .i64 0) 8 rfl Try.underlying24 info3 rfl (by decide) (by omega) u51 x51_5 x52_5 [.int .i64 x52_5] (fun k_ => Zn k_ v534 ∧ Zn k_ (.slice Ao122 t521.length co122)) (fun _ => False) rfl rfl ?aP (fun _ hk => hk.elim) ?aF ?aO ?aB ?aS ?aL ?_; (case aP => exact rfl); (case aB => exact (Zl HB)); (case aF => exact (fun k_ hk => ⟨Kd.fresh' (Kd.R_lt (Zr HO_43)) k_ hk, Kd.fresh' (Kd.R_lt (Zr HO_525001)) k_ hk⟩)); (case aO => exact (Zr HO_51)); (case aS => exact (below_size (Zl HB))); (case aL => have := LMc160.out; omega); intro v547 w161 ho hb hg hat; rw [← Ny546.out] at ho; replace HO_43 := Zm (Kd.R_after (ok := (fun k_ => Zn k_ (.slice Ao122 t521.length co122))) (Zc HO_43) hg hat); replace HO_525001 := Zm (Kd.R_after (ok := (fun k_ => Zn k_ v534)) (Zr HO_525001) hg hat); replace BK524 := Zm (blk_grown (Zb BK524) hg (Kd.R_ne HO_51.out BK524.out (by decide))); replace HB := Zm (hb); have HO548 := Zm (ho); clear HO_51 ho hb hg hat))
       go_roundg k5
       case measure => have := HJ9.out; have := HJ35.out; have := HJ46.out; have := HJ117.out; have := HK5.out; omega
       case rel => exact ⟨(y546), (wrap64 (x52_5 - 1)), (by first | rfl | (simp; done) | (simp [*]; done)), H', ⟨by have := HJ9.out; have := HJ35.out; have := HJ46.out; have := HJ117.out; have := HK5.out; omega⟩, ⟨Zc HO_43⟩, ⟨Zr HO548⟩, ⟨Zr HO_525001⟩, ⟨Zb BK524⟩, ⟨Zl HB⟩⟩
      ·
       rw [if_neg c160] at H
       exact absurd H (by simp)
     ·
      rw [if_neg c159] at H; have c159b0 : decide (0 ≤ x52_5) = false := decide_eq_false c159; clear c159
      (first | rw [c159b0] | (simp only [i64_w, i32_w]; rw [c159b0]) | skip)
      replace H := Option.bind_eq_some_iff.mp H; obtain ⟨⟨t549, t552⟩, A1620, H⟩ := H; (try dsimp only at H); have A162 := Aside0.mk A1620; clear A1620; replace H := Option.bind_eq_some_iff.mp H; obtain ⟨⟨t553, t554⟩, A1630, H⟩ := H; (try dsimp only at H); have A163 := Aside0.mk A1630; clear A1630; replace H := Option.bind_eq_some_iff.mp H; obtain ⟨⟨t555, t556⟩, A1640, H⟩ := H; (try dsimp only at H); have A164 := Aside0.mk A1640; clear A1640
      by_cases c165 : 0 ≤ t520
      ·
       rw [if_pos c165] at H; have c165b0 := eq_true c165; have c165b1 : decide (0 ≤ t520) = true := decide_eq_true c165; clear c165; obtain ⟨ji166, hji166⟩ : ∃ j_ : Int, (shl .i64 1 t520) = j_ := ⟨_, rfl⟩; (replace H : (if (t525 != (t529 == (ji166))) = true then (none) else (if t552 = true then ((laws_kSorted.f k5 t549).bind fun t557 => (if (t557 != t525) = true then (none) else (if t554 = true then (if t525 = true then (if (t521.length : Int) < t553 then (none) else (if t542 = true then (if t541 < t553 then (none) else (if t541 > (t521.length : Int) then (none) else (if t556 = true then (if (t555 != t525) = true then (none) else (laws_FnRungsCompare.j10 k5 t533 t536 t520 t521)) else (none)))) else (if t556 = true then (if (t555 != t525) = true then (none) else (laws_FnRungsCompare.j10 k5 t533 t536 t520 t521)) else (none)))) else (if t542 = true then (if t541 < t553 then (none) else (if t541 > (t521.length : Int) then (none) else (if t556 = true then (if (t555 != t525) = true then (none) else (laws_FnRungsCompare.j10 k5 t533 t536 t520 t521)) else (none)))) else (if t556 = true then (if (t555 != t525) = true then (none) else (laws_FnRungsCompare.j10 k5 t533 t536 t520 t521)) else (none)))) else (none)))) else (none))) = some r := by first | (rw [hji166] at H; exact H) | (simp only [hji166] at H ⊢; exact H))
       (try rw [hji166] at A162)
       (try rw [hji166] at A163)
       (try rw [hji166] at A164)
       have hji166_ : (IntKind.i64.wrap (1 * 2 ^ min t520.toNat 64)) = ji166 := hji166; have hji166z : t520 ≤ 64 → (IntKind.i64.wrap (1 * 2 ^ t520.toNat)) = ji166 := shl_small hji166
       have hji166u : (IntKind.i64.wrap (2 ^ min t520.toNat 64)) = ji166 := by have h_ := hji166_; rw [Int.one_mul] at h_; exact h_
       have hji166v : t520 ≤ 64 → (IntKind.i64.wrap (2 ^ t520.toNat)) = ji166 := fun hle_ => by have h_ := hji166z hle_; rw [Int.one_mul] at h_; exact h_
       have hji166y : (wrap64 (1 * 2 ^ min t520.toNat 64)) = ji166 := (i64_w _).symm.trans hji166_
       have hji166x : t520 ≤ 64 → (wrap64 (1 * 2 ^ t520.toNat)) = ji166 := fun h_ => (i64_w _).symm.trans (hji166z h_)
       by_cases c167 : (t525 != (t529 == (ji166))) = true
       ·
        rw [if_pos c167] at H
        exact absurd H (by simp)
       ·
        rw [if_neg c167] at H; obtain ⟨c167b0, c167b1, c167b2⟩ := Zd c167; clear c167
        by_cases c168 : t552 = true
        ·
         subst c168
         rw [if_pos rfl] at H
         replace H := Option.bind_eq_some_iff.mp H; obtain ⟨t557, A1690, H⟩ := H; (try dsimp only at H); have A169 := Aside0.mk A1690; clear A1690
         by_cases c170 : (t557 != t525) = true
         ·
          rw [if_pos c170] at H
          exact absurd H (by simp)
         ·
          rw [if_neg c170] at H; obtain ⟨c170b0, c170b1, c170b2⟩ := Zd c170; clear c170
          by_cases c171 : t554 = true
          ·
           subst c171
           rw [if_pos rfl] at H
           by_cases c172 : t525 = true
           ·
            revert k A0 c0 l0 A1 c1 l1 r w hu26 HR0 HC0 HR1 HC1 A3 t467 t468 t471 A5 t475 t478 A6 t479 t482 A7 t483 t486 A8 t487 t490 A9 nd w11 gb474 w12 GW474 GE474 Ao14 co14 Ao15 co15 w16 v476 w18 v480 w20 v484 w22 v488 HO489 HO470 HO473 HO477 HO481 HO485 kj9 HJ9 t493 t494 A34 t495 t496 A35 w38 w40 HO_6 HO_7 HO_11 HO_475001 BK474 kj35 HJ35 kj46 HJ46 t520 t521 A109 t525 t527 t528 A111 t529 t530 A112 t531 t532 A113 t533 t536 A114 t537 t540 A115 t541 t542 A116 t543 t544 A117 w119 gb524 w120 GW524 GE524 Ao122 co122 w123 w125 w127 w129 w131 v534 w133 v538 w135 w137 HO523 HO535 HO539 wc kj117 HJ117 A110 wr x51_5 x52_5 HO_43 HO_51 HO_525001 BK524 HB k5 HK5 c159b0 t549 t553 t555 t556 A164 c165b0 c165b1 ji166 hji166 hji166_ hji166z hji166u hji166v hji166y hji166x c167b0 c167b1 c167b2 A162 t557 A169 c170b0 c170b1 c170b2 A163 H c172; iterate 1537 (rename _ => z_; revert z_)
            exact hq1.out
           ·
            revert k A0 c0 l0 A1 c1 l1 r w hu26 HR0 HC0 HR1 HC1 A3 t467 t468 t471 A5 t475 t478 A6 t479 t482 A7 t483 t486 A8 t487 t490 A9 nd w11 gb474 w12 GW474 GE474 Ao14 co14 Ao15 co15 w16 v476 w18 v480 w20 v484 w22 v488 HO489 HO470 HO473 HO477 HO481 HO485 kj9 HJ9 t493 t494 A34 t495 t496 A35 w38 w40 HO_6 HO_7 HO_11 HO_475001 BK474 kj35 HJ35 kj46 HJ46 t520 t521 A109 t525 t527 t528 A111 t529 t530 A112 t531 t532 A113 t533 t536 A114 t537 t540 A115 t541 t542 A116 t543 t544 A117 w119 gb524 w120 GW524 GE524 Ao122 co122 w123 w125 w127 w129 w131 v534 w133 v538 w135 w137 HO523 HO535 HO539 wc kj117 HJ117 A110 wr x51_5 x52_5 HO_43 HO_51 HO_525001 BK524 HB k5 HK5 c159b0 t549 t553 t555 t556 A164 c165b0 c165b1 ji166 hji166 hji166_ hji166z hji166u hji166v hji166y hji166x c167b0 c167b1 c167b2 A162 t557 A169 c170b0 c170b1 c170b2 A163 H c172; iterate 1537 (rename _ => z_; revert z_)
            exact hq2.out
          ·
           replace c171 := Bool.eq_false_iff.mpr c171
           subst c171
           rw [if_neg Bool.false_ne_true] at H
           exact absurd H (by simp)
        ·
         replace c168 := Bool.eq_false_iff.mpr c168
         subst c168
         rw [if_neg Bool.false_ne_true] at H
         exact absurd H (by simp)
      ·
       rw [if_neg c165] at H
       exact absurd H (by simp)
  · as_aux_lemma =>
   replace c157 := Bool.eq_false_iff.mpr c157
   subst c157
   rw [if_neg Bool.false_ne_true] at H
   have H' := Aside0.mk H; clear H
   go_wp2
   go_meet
   case rel => exact ⟨_, H', ⟨by have := HJ9.out; have := HJ35.out; have := HJ46.out; have := HJ117.out; first | omega | exact Nat.le_refl _⟩, ⟨Zr HO_43⟩, ⟨Zr HO_525001⟩, ⟨Zb BK524⟩, ⟨Zl HB⟩⟩

end Go.Proofs.Ytnagcjhgojchlac.Q
