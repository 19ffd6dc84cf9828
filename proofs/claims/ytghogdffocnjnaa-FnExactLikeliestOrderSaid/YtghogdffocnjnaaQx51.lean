/- Each function below comes to the Lean function beside it (theorems '.calls'); no condition beyond each theorem's own. Written by our program oprint.py over the kit's print. -/
import Derived.Test.YtghogdffocnjnaaQx0
import Derived.Test.YtghogdffocnjnaaQx26
import Derived.Test.YtghogdffocnjnaaQx28
import Derived.Test.YtghogdffocnjnaaQx50
namespace Go.Proofs.Ytghogdffocnjnaa.Q
open Go.RowKit Go.Proofs.YtghogdffocnjnaaW.PrintWords Go.Proofs.YtghogdffocnjnaaW.PrintLast Go.Proofs.YtghogdffocnjnaaW.PrintMore
attribute [local go_sem] max2_int min2_int max_two min_two max_three min_three max_four min_four   -- for this text's walks alone
set_option linter.unusedVariables false
set_option linter.unusedSimpArgs false

/-! ### laws_FnExactLikeliestOrder: function 14 -/
def laws_FnExactLikeliestOrder.f (k : Nat) (a0 : Int) (a1 : Int) : Option (Bool) := (spec_LikeliestOrder.f k a0 a1).bind fun bt554 => ((impl_LikeliestOrder.f k a0 a1).bind fun bt558 => ((laws_eqIntS.f k bt558.1 bt554.1).bind fun t562 => (if t562 = true then (if (bt558.2 != bt554.2) = true then (none) else ((laws_markIntS.f k bt558.1 1).bind fun bt563 => ((laws_heldIntS.f k bt563.2 1).bind fun t565 => (if t565 < 0 then (none) else (if t565 = bt563.1 then ((impl_LikeliestOrder.f k a0 a1).bind fun bt566 => ((laws_eqIntS.f k bt566.1 bt554.1).bind fun t570 => (if t570 = true then (if (bt566.2 != bt554.2) = true then (none) else ((laws_heldIntS.f k bt563.2 1).bind fun t571 => (if t571 < 0 then (none) else (if t571 = bt563.1 then (some true) else (none))))) else (none)))) else (none)))))) else (none))))
theorem laws_FnExactLikeliestOrder.mono : ∀ a0 a1 k, LeO (laws_FnExactLikeliestOrder.f k a0 a1) (laws_FnExactLikeliestOrder.f (k + 1) a0 a1) := by
  intro a0 a1 k
  unfold laws_FnExactLikeliestOrder.f
  repeat' first
      | (with_reducible exact impl_LikeliestOrder.mono _ _ _)
      | (with_reducible exact laws_eqIntS.mono _ _ _)
      | (with_reducible exact laws_heldIntS.mono _ _ _)
      | (with_reducible exact laws_markIntS.mono _ _ _)
      | (with_reducible exact spec_LikeliestOrder.mono _ _ _)
      | (with_reducible exact LeO.refl _)
      | (with_reducible exact LeO.none _)
      | (with_reducible refine LeO.ite ?_ ?_)
      | (with_reducible refine LeO.bind ?_ (fun _ => ?_))
      | exact impl_LikeliestOrder.mono _ _ _
      | exact laws_eqIntS.mono _ _ _
      | exact laws_heldIntS.mono _ _ _
      | exact laws_markIntS.mono _ _ _
      | exact spec_LikeliestOrder.mono _ _ _
      | exact LeO.none _
      | refine LeO.ite ?_ ?_
      | refine LeO.bind ?_ (fun _ => ?_)
set_option maxHeartbeats 8000000 in
set_option maxRecDepth 100000 in
theorem laws_FnExactLikeliestOrder.calls (k : Nat) (a0 : Int) (a1 : Int) (r : Bool) (w : World) (h : laws_FnExactLikeliestOrder.f k a0 a1 = some r) :
    Calls Try.prog 14 #[.int .i64 a0, .int .i64 a1] w fun e w' => e = .returned (.bool r) ∧ Below w.heap.size w w' := by
  have HB := Aside0.mk (Below.refl w.heap.size w)
  have H : ((spec_LikeliestOrder.f k a0 a1).bind fun bt554 => ((impl_LikeliestOrder.f k a0 a1).bind fun bt558 => ((laws_eqIntS.f k bt558.1 bt554.1).bind fun t562 => (if t562 = true then (if (bt558.2 != bt554.2) = true then (none) else ((laws_markIntS.f k bt558.1 1).bind fun bt563 => ((laws_heldIntS.f k bt563.2 1).bind fun t565 => (if t565 < 0 then (none) else (if t565 = bt563.1 then ((impl_LikeliestOrder.f k a0 a1).bind fun bt566 => ((laws_eqIntS.f k bt566.1 bt554.1).bind fun t570 => (if t570 = true then (if (bt566.2 != bt554.2) = true then (none) else ((laws_heldIntS.f k bt563.2 1).bind fun t571 => (if t571 < 0 then (none) else (if t571 = bt563.1 then (some true) else (none))))) else (none)))) else (none)))))) else (none))))) = some r := h
  clear h
  replace H := Option.bind_eq_some_iff.mp H
  obtain ⟨⟨t554, t555⟩, A30, H⟩ := H
  replace H : ((impl_LikeliestOrder.f k a0 a1).bind fun bt558 => ((laws_eqIntS.f k bt558.1 t554).bind fun t562 => (if t562 = true then (if (bt558.2 != t555) = true then (none) else ((laws_markIntS.f k bt558.1 1).bind fun bt563 => ((laws_heldIntS.f k bt563.2 1).bind fun t565 => (if t565 < 0 then (none) else (if t565 = bt563.1 then ((impl_LikeliestOrder.f k a0 a1).bind fun bt566 => ((laws_eqIntS.f k bt566.1 t554).bind fun t570 => (if t570 = true then (if (bt566.2 != t555) = true then (none) else ((laws_heldIntS.f k bt563.2 1).bind fun t571 => (if t571 < 0 then (none) else (if t571 = bt563.1 then (some true) else (none))))) else (none)))) else (none)))))) else (none)))) = some r := H
  have A3 := Aside0.mk A30
  clear A30
  replace H := Option.bind_eq_some_iff.mp H
  obtain ⟨⟨t558, t559⟩, A40, H⟩ := H
  replace H : ((laws_eqIntS.f k t558 t554).bind fun t562 => (if t562 = true then (if (t559 != t555) = true then (none) else ((laws_markIntS.f k t558 1).bind fun bt563 => ((laws_heldIntS.f k bt563.2 1).bind fun t565 => (if t565 < 0 then (none) else (if t565 = bt563.1 then ((impl_LikeliestOrder.f k a0 a1).bind fun bt566 => ((laws_eqIntS.f k bt566.1 t554).bind fun t570 => (if t570 = true then (if (bt566.2 != t555) = true then (none) else ((laws_heldIntS.f k bt563.2 1).bind fun t571 => (if t571 < 0 then (none) else (if t571 = bt563.1 then (some true) else (none))))) else (none)))) else (none)))))) else (none))) = some r := H
  have A4 := Aside0.mk A40
  clear A40
  replace H := Option.bind_eq_some_iff.mp H
  obtain ⟨t562, A50, H⟩ := H
  replace H : (if t562 = true then (if (t559 != t555) = true then (none) else ((laws_markIntS.f k t558 1).bind fun bt563 => ((laws_heldIntS.f k bt563.2 1).bind fun t565 => (if t565 < 0 then (none) else (if t565 = bt563.1 then ((impl_LikeliestOrder.f k a0 a1).bind fun bt566 => ((laws_eqIntS.f k bt566.1 t554).bind fun t570 => (if t570 = true then (if (bt566.2 != t555) = true then (none) else ((laws_heldIntS.f k bt563.2 1).bind fun t571 => (if t571 < 0 then (none) else (if t571 = bt563.1 then (some true) else (none))))) else (none)))) else (none)))))) else (none)) = some r := H
  have A5 := Aside0.mk A50
  clear A50
  by_cases c6 : t562 = true
  · subst c6
    have H1 : (if (t559 != t555) = true then (none) else ((laws_markIntS.f k t558 1).bind fun bt563 => ((laws_heldIntS.f k bt563.2 1).bind fun t565 => (if t565 < 0 then (none) else (if t565 = bt563.1 then ((impl_LikeliestOrder.f k a0 a1).bind fun bt566 => ((laws_eqIntS.f k bt566.1 t554).bind fun t570 => (if t570 = true then (if (bt566.2 != t555) = true then (none) else ((laws_heldIntS.f k bt563.2 1).bind fun t571 => (if t571 < 0 then (none) else (if t571 = bt563.1 then (some true) else (none))))) else (none)))) else (none)))))) = some r := by rw [if_pos rfl] at H; exact H
    clear H
    have H := H1
    clear H1
    by_cases c7 : (t559 != t555) = true
    · rw [if_pos c7] at H
      exact absurd H (by simp)
    · rw [if_neg c7] at H
      have c7b0 : (t559 != t555) = false := by simpa using c7
      (try (have c7b1 : decide (t559 = t555) = true := by simpa using c7))
      (try (have c7b2 : (t559 == t555) = true := by simpa using c7))
      clear c7
      replace H := Option.bind_eq_some_iff.mp H
      obtain ⟨⟨t563, t564⟩, A80, H⟩ := H
      replace H : ((laws_heldIntS.f k t564 1).bind fun t565 => (if t565 < 0 then (none) else (if t565 = t563 then ((impl_LikeliestOrder.f k a0 a1).bind fun bt566 => ((laws_eqIntS.f k bt566.1 t554).bind fun t570 => (if t570 = true then (if (bt566.2 != t555) = true then (none) else ((laws_heldIntS.f k t564 1).bind fun t571 => (if t571 < 0 then (none) else (if t571 = t563 then (some true) else (none))))) else (none)))) else (none)))) = some r := H
      have A8 := Aside0.mk A80
      clear A80
      replace H := Option.bind_eq_some_iff.mp H
      obtain ⟨t565, A90, H⟩ := H
      replace H : (if t565 < 0 then (none) else (if t565 = t563 then ((impl_LikeliestOrder.f k a0 a1).bind fun bt566 => ((laws_eqIntS.f k bt566.1 t554).bind fun t570 => (if t570 = true then (if (bt566.2 != t555) = true then (none) else ((laws_heldIntS.f k t564 1).bind fun t571 => (if t571 < 0 then (none) else (if t571 = t563 then (some true) else (none))))) else (none)))) else (none))) = some r := H
      have A9 := Aside0.mk A90
      clear A90
      by_cases c10 : t565 < 0
      · rw [if_pos c10] at H
        exact absurd H (by simp)
      · rw [if_neg c10] at H
        have c10b0 : decide (t565 < 0) = false := decide_eq_false c10
        clear c10
        by_cases c11 : t565 = t563
        · rw [if_pos c11] at H
          have c11b0 : (t565 == t563) = true := beq_iff_eq.mpr c11
          have c11b1 : (t565 != t563) = false := bne_eq_false_iff_eq.mpr c11
          clear c11
          replace H := Option.bind_eq_some_iff.mp H
          obtain ⟨⟨t566, t567⟩, A120, H⟩ := H
          replace H : ((laws_eqIntS.f k t566 t554).bind fun t570 => (if t570 = true then (if (t567 != t555) = true then (none) else ((laws_heldIntS.f k t564 1).bind fun t571 => (if t571 < 0 then (none) else (if t571 = t563 then (some true) else (none))))) else (none))) = some r := H
          have A12 := Aside0.mk A120
          clear A120
          replace H := Option.bind_eq_some_iff.mp H
          obtain ⟨t570, A130, H⟩ := H
          replace H : (if t570 = true then (if (t567 != t555) = true then (none) else ((laws_heldIntS.f k t564 1).bind fun t571 => (if t571 < 0 then (none) else (if t571 = t563 then (some true) else (none))))) else (none)) = some r := H
          have A13 := Aside0.mk A130
          clear A130
          by_cases c14 : t570 = true
          · subst c14
            have H1 : (if (t567 != t555) = true then (none) else ((laws_heldIntS.f k t564 1).bind fun t571 => (if t571 < 0 then (none) else (if t571 = t563 then (some true) else (none))))) = some r := by rw [if_pos rfl] at H; exact H
            clear H
            have H := H1
            clear H1
            by_cases c15 : (t567 != t555) = true
            · rw [if_pos c15] at H
              exact absurd H (by simp)
            · rw [if_neg c15] at H
              have c15b0 : (t567 != t555) = false := by simpa using c15
              (try (have c15b1 : decide (t567 = t555) = true := by simpa using c15))
              (try (have c15b2 : (t567 == t555) = true := by simpa using c15))
              clear c15
              replace H := Option.bind_eq_some_iff.mp H
              obtain ⟨t571, A160, H⟩ := H
              replace H : (if t571 < 0 then (none) else (if t571 = t563 then (some true) else (none))) = some r := H
              have A16 := Aside0.mk A160
              clear A160
              by_cases c17 : t571 < 0
              · rw [if_pos c17] at H
                exact absurd H (by simp)
              · rw [if_neg c17] at H
                have c17b0 : decide (t571 < 0) = false := decide_eq_false c17
                clear c17
                by_cases c18 : t571 = t563
                · rw [if_pos c18] at H
                  have c18b0 : (t571 == t563) = true := beq_iff_eq.mpr c18
                  have c18b1 : (t571 != t563) = false := bne_eq_false_iff_eq.mpr c18
                  clear c18
                  obtain rfl := Option.some.inj H
                  go_enter Try.func14, Try.ntmps14
                  go_wp2_with (first | ((with_reducible refine gate_callee (f := 44) rfl ?_); refine goesL_ (some 16) rfl rfl Try.func44 (by kernel_rfl) rfl #[.int .i64 a0, .int .i64 a1] rfl (by (try simp only [List.map_toArray, List.map_cons, List.map_nil]); first | done | rfl | (simp only [List.length_drop, List.length_take]; rfl)) ?_; (with_reducible refine (spec_LikeliestOrder.calls k a0 a1 t554 t555 _ A3.out).mono ?_); rintro e w19 ⟨v556, rfl, ho0, hb⟩; refine ⟨_, rfl, ?_⟩; have n0_ := Aside0.mk (Kd.R_lower ho0 (below_size (by repeat (first | (with_reducible first | exact HB.out | apply below_alloc | apply pw_below_drewN | apply below_drew1) | exact HB.out)))); have n1_ := Aside0.mk (below_step (by repeat (first | (with_reducible first | exact HB.out | apply below_alloc | apply pw_below_drewN | apply below_drew1) | exact HB.out)) hb); clear HB; have HO557 := n0_; have HB := n1_; clear n0_ n1_; (try clear hb); (try clear hb2); (try clear hk); (try clear hi); (try clear ho0)) | ((with_reducible refine gate_callee (f := 45) rfl ?_); refine goesL_ (some 22) rfl rfl Try.func45 (by kernel_rfl) rfl #[.int .i64 a0, .int .i64 a1] rfl (by (try simp only [List.map_toArray, List.map_cons, List.map_nil]); first | done | rfl | (simp only [List.length_drop, List.length_take]; rfl)) ?_; (with_reducible refine (impl_LikeliestOrder.calls k a0 a1 t558 t559 _ A4.out).mono ?_); rintro e w20 ⟨v560, rfl, ho0, hb⟩; refine ⟨_, rfl, ?_⟩; have n0_ := Aside0.mk (Kd.R_elder' (by (with_reducible repeat (first | apply Kd.R_alloc | apply Kd.R_drewN | apply Kd.R_drew)); exact HO557.out) (Kd.R_base ho0) hb); have n1_ := Aside0.mk (Kd.R_lower (Kd.R_new' ho0 (Kd.R_lt (by (with_reducible repeat (first | apply Kd.R_alloc | apply Kd.R_drewN | apply Kd.R_drew)); exact HO557.out))) (below_size (by repeat (first | (with_reducible first | exact HB.out | apply below_alloc | apply pw_below_drewN | apply below_drew1) | exact HB.out)))); have n2_ := Aside0.mk (below_step (by repeat (first | (with_reducible first | exact HB.out | apply below_alloc | apply pw_below_drewN | apply below_drew1) | exact HB.out)) hb); clear HO557; clear HB; have HO557 := n0_; have HO561 := n1_; have HB := n2_; clear n0_ n1_ n2_; (try clear hb); (try clear hb2); (try clear hk); (try clear hi); (try clear ho0); obtain ⟨Ao21, co21, eo21⟩ := Kd.R_slice HO561.out; subst eo21; obtain ⟨Ao22, co22, eo22⟩ := Kd.R_slice HO557.out; subst eo22) | ((with_reducible refine gate_callee (f := 41) rfl ?_); refine goesL_ (some 27) rfl rfl Try.func41 (by kernel_rfl) rfl #[.slice Ao21 t558.length co21, .slice Ao22 t554.length co22] rfl (by (try simp only [List.map_toArray, List.map_cons, List.map_nil]); first | done | rfl | (simp only [List.length_drop, List.length_take]; rfl)) ?_; (with_reducible refine (laws_eqIntS.calls k _ _ t558 _ _ t554 true _ ?side1 ?side2 ?side3 ?side4 A5.out).mono ?_); (case side1 => repeat (first | exact (Kd.R_reads' HO561.out).2.2 | (with_reducible refine Kd.C_alloc ?_ _) | (with_reducible refine Kd.C_drewN ?_ _) | (with_reducible refine Kd.C_drew ?_))); (case side2 => exact (Kd.R_reads' HO561.out).2.1); (case side3 => repeat (first | exact (Kd.R_reads' HO557.out).2.2 | (with_reducible refine Kd.C_alloc ?_ _) | (with_reducible refine Kd.C_drewN ?_ _) | (with_reducible refine Kd.C_drew ?_))); (case side4 => exact (Kd.R_reads' HO557.out).2.1); rintro e w' ⟨rfl, ⟨nd, rfl⟩⟩; refine ⟨_, rfl, ?_⟩) | ((with_reducible refine gate_callee (f := 46) rfl ?_); refine goesL_ (some 36) rfl rfl Try.func46 (by kernel_rfl) rfl #[.slice Ao21 t558.length co21, .int .i64 1] rfl (by (try simp only [List.map_toArray, List.map_cons, List.map_nil]); first | done | rfl | (simp only [List.length_drop, List.length_take]; rfl)) ?_; (with_reducible refine (laws_markIntS.calls k (fun k_ => some k_ = (.slice Ao21 t558.length co21 : Value).ownBlock) (.slice Ao21 t558.length co21) t558 1 t563 t564 w _ ?side1 ?side2 A8.out).mono ?_); (case side1 => repeat (first | (with_reducible first | exact HB.out | apply below_alloc | apply pw_below_drewN | apply below_drew1) | exact HB.out)); (case side2 => exact Kd.R_tight rfl HO561.out); rintro e w23 ⟨rfl, hy0, hb, hkp⟩; refine ⟨_, rfl, ?_⟩; have n0_ := Aside0.mk (Kd.R_mono (ok' := fun k_ => some k_ ≠ (.slice Ao21 t558.length co21 : Value).ownBlock) (Kd.R_keptB (HO557.out) hkp (fun k_ hk_ hs_ => (hk_.2) hs_)) (fun k_ hk_ => hk_.1.2)); have n1_ := Aside0.mk (Kd.R_reok rfl hy0 (fun k_ e_ => HO561.out.1 k_ e_)); have n2_ := Aside0.mk (hb); clear HO557; clear HO561; clear HB; have HO557 := n0_; have HO561 := n1_; have HB := n2_; clear n0_ n1_ n2_; (try clear hb); (try clear hkp); (try clear hy0)) | ((with_reducible refine gate_callee (f := 47) rfl ?_); refine goesL_ (some 39) rfl rfl Try.func47 (by kernel_rfl) rfl #[.slice Ao21 t564.length co21, .int .i64 1] rfl (by (try simp only [List.map_toArray, List.map_cons, List.map_nil]); first | done | (rw [show t564.length = t558.length from (Kd.R_reads' HO561.out).1.symm] <;> rfl) | rfl | (simp only [List.length_drop, List.length_take]; rfl)) ?_; (with_reducible refine (laws_heldIntS.calls k _ _ t564 1 t565 _ ?side1 ?side2 A9.out).mono ?_); (case side1 => repeat (first | exact (Kd.R_reads' HO561.out).2.2 | (with_reducible refine Kd.C_alloc ?_ _) | (with_reducible refine Kd.C_drewN ?_ _) | (with_reducible refine Kd.C_drew ?_))); (case side2 => rw [show t564.length = t558.length from (Kd.R_reads' HO561.out).1.symm]; exact (Kd.R_reads' HO561.out).2.1); rintro e w' ⟨rfl, ⟨nd, rfl⟩⟩; refine ⟨_, rfl, ?_⟩) | ((with_reducible refine gate_callee (f := 45) rfl ?_); refine goesL_ (some 48) rfl rfl Try.func45 (by kernel_rfl) rfl #[.int .i64 a0, .int .i64 a1] rfl (by (try simp only [List.map_toArray, List.map_cons, List.map_nil]); first | done | rfl | (simp only [List.length_drop, List.length_take]; rfl)) ?_; (with_reducible refine (impl_LikeliestOrder.calls k a0 a1 t566 t567 _ A12.out).mono ?_); rintro e w24 ⟨v568, rfl, ho0, hb⟩; refine ⟨_, rfl, ?_⟩; have n0_ := Aside0.mk (Kd.R_elder' (by (with_reducible repeat (first | apply Kd.R_alloc | apply Kd.R_drewN | apply Kd.R_drew)); exact HO557.out) (Kd.R_base ho0) hb); have n1_ := Aside0.mk (Kd.R_elder' (by (with_reducible repeat (first | apply Kd.R_alloc | apply Kd.R_drewN | apply Kd.R_drew)); exact HO561.out) (Kd.R_base ho0) hb); have n2_ := Aside0.mk (Kd.R_lower (Kd.R_new' (Kd.R_new' ho0 (Kd.R_lt (by (with_reducible repeat (first | apply Kd.R_alloc | apply Kd.R_drewN | apply Kd.R_drew)); exact HO557.out))) (Kd.R_lt (by (with_reducible repeat (first | apply Kd.R_alloc | apply Kd.R_drewN | apply Kd.R_drew)); exact HO561.out))) (below_size (by repeat (first | (with_reducible first | exact HB.out | apply below_alloc | apply pw_below_drewN | apply below_drew1) | exact HB.out)))); have n3_ := Aside0.mk (below_step (by repeat (first | (with_reducible first | exact HB.out | apply below_alloc | apply pw_below_drewN | apply below_drew1) | exact HB.out)) hb); clear HO557; clear HO561; clear HB; have HO557 := n0_; have HO561 := n1_; have HO569 := n2_; have HB := n3_; clear n0_ n1_ n2_ n3_; (try clear hb); (try clear hb2); (try clear hk); (try clear hi); (try clear ho0); obtain ⟨Ao25, co25, eo25⟩ := Kd.R_slice HO569.out; subst eo25) | ((with_reducible refine gate_callee (f := 41) rfl ?_); refine goesL_ (some 53) rfl rfl Try.func41 (by kernel_rfl) rfl #[.slice Ao25 t566.length co25, .slice Ao22 t554.length co22] rfl (by (try simp only [List.map_toArray, List.map_cons, List.map_nil]); first | done | rfl | (simp only [List.length_drop, List.length_take]; rfl)) ?_; (with_reducible refine (laws_eqIntS.calls k _ _ t566 _ _ t554 true _ ?side1 ?side2 ?side3 ?side4 A13.out).mono ?_); (case side1 => repeat (first | exact (Kd.R_reads' HO569.out).2.2 | (with_reducible refine Kd.C_alloc ?_ _) | (with_reducible refine Kd.C_drewN ?_ _) | (with_reducible refine Kd.C_drew ?_))); (case side2 => exact (Kd.R_reads' HO569.out).2.1); (case side3 => repeat (first | exact (Kd.R_reads' HO557.out).2.2 | (with_reducible refine Kd.C_alloc ?_ _) | (with_reducible refine Kd.C_drewN ?_ _) | (with_reducible refine Kd.C_drew ?_))); (case side4 => exact (Kd.R_reads' HO557.out).2.1); rintro e w' ⟨rfl, ⟨nd, rfl⟩⟩; refine ⟨_, rfl, ?_⟩) | ((with_reducible refine gate_callee (f := 47) rfl ?_); refine goesL_ (some 62) rfl rfl Try.func47 (by kernel_rfl) rfl #[.slice Ao21 t564.length co21, .int .i64 1] rfl (by (try simp only [List.map_toArray, List.map_cons, List.map_nil]); first | done | (rw [show t564.length = t558.length from (Kd.R_reads' HO561.out).1.symm] <;> rfl) | rfl | (simp only [List.length_drop, List.length_take]; rfl)) ?_; (with_reducible refine (laws_heldIntS.calls k _ _ t564 1 t571 _ ?side1 ?side2 A16.out).mono ?_); (case side1 => repeat (first | exact (Kd.R_reads' HO561.out).2.2 | (with_reducible refine Kd.C_alloc ?_ _) | (with_reducible refine Kd.C_drewN ?_ _) | (with_reducible refine Kd.C_drew ?_))); (case side2 => rw [show t564.length = t558.length from (Kd.R_reads' HO561.out).1.symm]; exact (Kd.R_reads' HO561.out).2.1); rintro e w' ⟨rfl, ⟨nd, rfl⟩⟩; refine ⟨_, rfl, ?_⟩))
                  go_ret
                  exact ⟨by first | rfl | (simp [errW_none, errW_some] <;> rfl) | (simp [*, errW_none, errW_some] <;> rfl), by repeat (first | (with_reducible first | exact HB.out | apply below_alloc | apply pw_below_drewN | apply below_drew1) | exact HB.out)⟩
                · rw [if_neg c18] at H
                  exact absurd H (by simp)
          · replace c14 := Bool.eq_false_iff.mpr c14
            subst c14
            have H1 : (none) = some r := by rw [if_neg (show ¬ (false = true) by decide)] at H; exact H
            clear H
            have H := H1
            clear H1
            exact absurd H (by simp)
        · rw [if_neg c11] at H
          exact absurd H (by simp)
  · replace c6 := Bool.eq_false_iff.mpr c6
    subst c6
    have H1 : (none) = some r := by rw [if_neg (show ¬ (false = true) by decide)] at H; exact H
    clear H
    have H := H1
    clear H1
    exact absurd H (by simp)

end Go.Proofs.Ytghogdffocnjnaa.Q
