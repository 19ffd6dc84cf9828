/- Each function below comes to the Lean function beside it (theorems '.calls'); no condition beyond each theorem's own. Written by our program oprint.py over the kit's print. -/
import Derived.Test.YtnagcjhgojchlacQm0
import Derived.Test.YtnagcjhgojchlacQm4
import Derived.Test.YtnagcjhgojchlacQm5
import Derived.Test.YtnagcjhgojchlacQm6
import Derived.Test.YtnagcjhgojchlacQm9
import Derived.Test.YtnagcjhgojchlacQm10
import Derived.Test.YtnagcjhgojchlacQm7
import Derived.Shelf.Abstract
import Derived.WalkSpells
import Derived.Deep.QuietTactic
import Derived.BigQuiet
namespace Go.Proofs.Ytnagcjhgojchlac.Q
open Go.RowKit Go.Proofs.YtnagcjhgojchlacW.PrintWords Go.Proofs.YtnagcjhgojchlacW.PrintLast Go.Proofs.YtnagcjhgojchlacW.PrintMore
attribute [local go_sem] max2_int min2_int max_two min_two max_three min_three max_four min_four   -- for this text's walks alone
set_option linter.unusedVariables false
set_option linter.unusedSimpArgs false

/-! ### laws_kSorted: function 16 -/
def laws_kSorted.l0 : Nat → List Int → Int → Option (Bool)
 | 0, _, _ => none
 | k + 1, x0, x3 => if x3 < (x0.length : Int) then (if 0 ≤ (wrap64 (x3 - 1)) then (if (wrap64 (x3 - 1)) < (x0.length : Int) then (if 0 ≤ x3 then (if (rd x0 (wrap64 (x3 - 1))) > (rd x0 x3) then (some false) else (laws_kSorted.l0 k x0 (wrap64 (x3 + 1)))) else (none)) else (none)) else (none)) else (some true)
def laws_kSorted.f (k : Nat) (l0 : List Int) : Option (Bool) := laws_kSorted.l0 k l0 1
set_option maxHeartbeats 8000000 in
set_option maxRecDepth 100000 in
theorem laws_kSorted.calls (k : Nat) (A0 : Option Addr) (c0 : Nat) (l0 : List Int) (r : Bool) (w : World) (hr0 : Kd.C (Kd.int .i64) w A0 l0.length l0) (hc0 : l0.length ≤ c0) (h : laws_kSorted.f k l0 = some r) :
  Calls Try.prog 16 #[.slice A0 l0.length c0] w fun e w' => e = .returned (.bool r) ∧ Drawn0 w w' := by
 have HR0 := Aside0.mk hr0; have HC0 := Aside0.mk hc0; clear hr0 hc0; have H : (laws_kSorted.l0 k l0 1) = some r := h; clear h; have H' := Aside0.mk H; clear H
 go_enter Try.func16, Try.ntmps16
 go_wp2
 repeat (go_quiet (fail); try go_wp2)
 go_loopg [3] k (fun kq v3 w' => ∃ (x3_1 : Int), v3 = .int .i64 x3_1 ∧ Aside0 (laws_kSorted.l0 kq l0 x3_1 = some r) ∧ Aside0 (kq ≤ k) ∧ Drawn0 w w')
 case atStart => exact ⟨(1), (by first | rfl | (simp; done) | (simp [*]; done)), H', ⟨Nat.le_refl _⟩, by repeat (first | exact Drawn0.refl _ | apply Drawn0.step)⟩
 case round =>
  (clear H'; (try clear c1)); obtain ⟨x3_1, rfl, HA, HK1, ⟨m1, rfl⟩⟩ := hrel
  cases gk with
  | zero => exact absurd HA.out (by simp [laws_kSorted.l0])
  | succ k1 =>
   have H := HA.out; clear HA
   simp only [laws_kSorted.l0] at H
   by_cases c2 : x3_1 < (l0.length : Int)
   ·
    rw [if_pos c2] at H; have c2b0 : decide (x3_1 < (l0.length : Int)) = true := decide_eq_true c2; clear c2; obtain ⟨ji3, hji3⟩ : ∃ j_ : Int, (wrap64 (x3_1 - 1)) = j_ := ⟨_, rfl⟩; (replace H : (if 0 ≤ (ji3) then (if (ji3) < (l0.length : Int) then (if 0 ≤ x3_1 then (if (rd l0 (ji3)) > (rd l0 x3_1) then (some false) else (laws_kSorted.l0 k1 l0 (wrap64 (x3_1 + 1)))) else (none)) else (none)) else (none)) = some r := by first | (rw [hji3] at H; exact H) | (simp only [hji3] at H ⊢; exact H))
    have hji3w : (IntKind.i64.wrap (x3_1 - 1)) = ji3 := (i64_w _).trans hji3
    by_cases c4 : 0 ≤ (ji3)
    ·
     rw [if_pos c4] at H; have c4b0 : decide (0 ≤ (ji3)) = true := decide_eq_true c4; clear c4
     by_cases c5 : (ji3) < (l0.length : Int)
     ·
      rw [if_pos c5] at H; have c5b0 : decide ((ji3) < (l0.length : Int)) = true := decide_eq_true c5; clear c5
      by_cases c6 : 0 ≤ x3_1
      ·
       rw [if_pos c6] at H; have c6b0 : decide (0 ≤ x3_1) = true := decide_eq_true c6; clear c6
       by_cases c7 : (rd l0 (ji3)) > (rd l0 x3_1)
       ·
        rw [if_pos c7] at H; have c7b0 : decide ((rd l0 x3_1) < (rd l0 (ji3))) = true := decide_eq_true c7; clear c7; obtain rfl := Option.some.inj H
        have p431 : 0 ≤ ((ji3) : Int) := of_decide_eq_true (by first | (with_reducible assumption) | assumption); have q431 : (ji3) < (l0.length : Int) := of_decide_eq_true (by first | (with_reducible assumption) | assumption)
        obtain ⟨ad431, e431, hx431_0⟩ := Kd.at_int HR0.out (ji3) p431 q431
        cases e431
        replace p431 := eq_true p431
        replace q431 := eq_true q431
        have p432 : 0 ≤ (x3_1 : Int) := of_decide_eq_true (by first | (with_reducible assumption) | assumption); have q432 : x3_1 < (l0.length : Int) := of_decide_eq_true (by first | (with_reducible assumption) | assumption)
        obtain ⟨ad432, e432, hx432_0⟩ := Kd.at_int HR0.out x3_1 p432 q432; obtain rfl : ad431 = ad432 := (by injection e432)
        replace p432 := eq_true p432
        replace q432 := eq_true q432
        go_wp2
        repeat (go_quiet (fail); try go_wp2)
        go_ret
        exact ⟨by first | rfl | (simp; done) | (simp only [← hji3] <;> (first | rfl | simp)) | (simp [*]; done), by repeat (first | exact Drawn0.refl _ | apply Drawn0.step)⟩
       ·
        rw [if_neg c7] at H; have c7b0 : decide ((rd l0 x3_1) < (rd l0 (ji3))) = false := decide_eq_false c7; clear c7; have H' := Aside0.mk H; clear H; have p431 : 0 ≤ ((ji3) : Int) := of_decide_eq_true (by first | (with_reducible assumption) | assumption); have q431 : (ji3) < (l0.length : Int) := of_decide_eq_true (by first | (with_reducible assumption) | assumption); obtain ⟨ad431, e431, hx431_0⟩ := Kd.at_int HR0.out (ji3) p431 q431
        cases e431
        replace p431 := eq_true p431
        replace q431 := eq_true q431
        have p432 : 0 ≤ (x3_1 : Int) := of_decide_eq_true (by first | (with_reducible assumption) | assumption); have q432 : x3_1 < (l0.length : Int) := of_decide_eq_true (by first | (with_reducible assumption) | assumption)
        obtain ⟨ad432, e432, hx432_0⟩ := Kd.at_int HR0.out x3_1 p432 q432; obtain rfl : ad431 = ad432 := (by injection e432)
        replace p432 := eq_true p432
        replace q432 := eq_true q432
        go_wp2
        repeat (go_quiet (fail); try go_wp2)
        go_roundg k1
        case measure => have := HK1.out; omega
        case rel => exact ⟨(wrap64 (x3_1 + 1)), (by first | rfl | (simp; done) | (simp [*]; done)), H', ⟨by have := HK1.out; omega⟩, by repeat (first | exact Drawn0.refl _ | apply Drawn0.step)⟩
      ·
       rw [if_neg c6] at H
       exact absurd H (by simp)
     ·
      rw [if_neg c5] at H
      exact absurd H (by simp)
    ·
     rw [if_neg c4] at H
     exact absurd H (by simp)
   ·
    rw [if_neg c2] at H; have c2b0 : decide (x3_1 < (l0.length : Int)) = false := decide_eq_false c2; clear c2; obtain rfl := Option.some.inj H
    go_wp2
    repeat (go_quiet (fail); try go_wp2)
    go_ret
    exact ⟨by first | rfl | (simp; done) | (simp [*]; done), by repeat (first | exact Drawn0.refl _ | apply Drawn0.step)⟩

/-! ### laws_kHas: function 17 -/
def laws_kHas.l0 : Nat → Int → List Int → Int → Int → Option (Bool)
 | 0, _, _, _, _ => none
 | k + 1, x1, x7, x8, x9 => if x9 < x8 then (if 0 ≤ x9 then (if x9 < (x7.length : Int) then (if (rd x7 x9) = x1 then (some true) else (laws_kHas.l0 k x1 x7 x8 (wrap64 (x9 + 1)))) else (none)) else (none)) else (some false)
def laws_kHas.f (k : Nat) (l0 : List Int) (a1 : Int) : Option (Bool) := laws_kHas.l0 k a1 l0 (l0.length : Int) 0
set_option maxHeartbeats 8000000 in
set_option maxRecDepth 100000 in
theorem laws_kHas.calls (k : Nat) (A0 : Option Addr) (c0 : Nat) (l0 : List Int) (a1 : Int) (r : Bool) (w : World) (hr0 : Kd.C (Kd.int .i64) w A0 l0.length l0) (hc0 : l0.length ≤ c0) (h : laws_kHas.f k l0 a1 = some r) :
  Calls Try.prog 17 #[.slice A0 l0.length c0, .int .i64 a1] w fun e w' => e = .returned (.bool r) ∧ Drawn0 w w' := by
 have HR0 := Aside0.mk hr0; have HC0 := Aside0.mk hc0; clear hr0 hc0; have H : (laws_kHas.l0 k a1 l0 (l0.length : Int) 0) = some r := h; clear h; have H' := Aside0.mk H; clear H
 go_enter Try.func17, Try.ntmps17
 go_wp2
 go_loopg [9] k (fun kq v9 w' => ∃ (x9_1 : Int), v9 = .int .i64 x9_1 ∧ Aside0 (laws_kHas.l0 kq a1 l0 (l0.length : Int) x9_1 = some r) ∧ Aside0 (kq ≤ k) ∧ Drawn0 w w')
 case atStart => exact ⟨(0), (by first | rfl | (simp; done) | (simp [*]; done)), H', ⟨Nat.le_refl _⟩, by repeat (first | exact Drawn0.refl _ | apply Drawn0.step)⟩
 case round =>
  (clear H'; (try clear c1); (try clear p2)); obtain ⟨x9_1, rfl, HA, HK1, ⟨m1, rfl⟩⟩ := hrel
  cases gk with
  | zero => exact absurd HA.out (by simp [laws_kHas.l0])
  | succ k1 =>
   have H := HA.out; clear HA
   simp only [laws_kHas.l0] at H
   by_cases c3 : x9_1 < (l0.length : Int)
   ·
    rw [if_pos c3] at H; have c3b0 : decide (x9_1 < (l0.length : Int)) = true := decide_eq_true c3; clear c3
    by_cases c4 : 0 ≤ x9_1
    ·
     rw [if_pos c4] at H; have c4b0 : decide (0 ≤ x9_1) = true := decide_eq_true c4; clear c4
     by_cases c5 : x9_1 < (l0.length : Int)
     ·
      rw [if_pos c5] at H; have c5b0 : decide (x9_1 < (l0.length : Int)) = true := decide_eq_true c5; clear c5
      by_cases c6 : (rd l0 x9_1) = a1
      ·
       rw [if_pos c6] at H; have c6b0 : ((rd l0 x9_1) == a1) = true := beq_iff_eq.mpr c6; have c6b1 : ((rd l0 x9_1) != a1) = false := bne_eq_false_iff_eq.mpr c6; clear c6; obtain rfl := Option.some.inj H
       have p433 : 0 ≤ (x9_1 : Int) := of_decide_eq_true (by first | (with_reducible assumption) | assumption); have q433 : x9_1 < (l0.length : Int) := of_decide_eq_true (by first | (with_reducible assumption) | assumption)
       obtain ⟨ad433, e433, hx433_0⟩ := Kd.at_int HR0.out x9_1 p433 q433
       cases e433
       replace p433 := eq_true p433
       replace q433 := eq_true q433
       go_wp2
       go_ret
       exact ⟨by first | rfl | (simp; done) | (simp [*]; done), by repeat (first | exact Drawn0.refl _ | apply Drawn0.step)⟩
      ·
       rw [if_neg c6] at H; have c6b0 : ((rd l0 x9_1) == a1) = false := beq_eq_false_iff_ne.mpr c6; have c6b1 : ((rd l0 x9_1) != a1) = true := bne_iff_ne.mpr c6; have H' := Aside0.mk H; clear H; have p433 : 0 ≤ (x9_1 : Int) := of_decide_eq_true (by first | (with_reducible assumption) | assumption); have q433 : x9_1 < (l0.length : Int) := of_decide_eq_true (by first | (with_reducible assumption) | assumption); obtain ⟨ad433, e433, hx433_0⟩ := Kd.at_int HR0.out x9_1 p433 q433
       cases e433
       replace p433 := eq_true p433
       replace q433 := eq_true q433
       go_wp2
       go_roundg k1
       case measure => have := HK1.out; omega
       case rel => exact ⟨(wrap64 (x9_1 + 1)), (by first | rfl | (simp; done) | (simp [*]; done)), H', ⟨by have := HK1.out; omega⟩, by repeat (first | exact Drawn0.refl _ | apply Drawn0.step)⟩
     ·
      rw [if_neg c5] at H
      exact absurd H (by simp)
    ·
     rw [if_neg c4] at H
     exact absurd H (by simp)
   ·
    rw [if_neg c3] at H; have c3b0 : decide (x9_1 < (l0.length : Int)) = false := decide_eq_false c3; clear c3; obtain rfl := Option.some.inj H
    go_wp2
    go_ret
    exact ⟨by first | rfl | (simp; done) | (simp [*]; done), by repeat (first | exact Drawn0.refl _ | apply Drawn0.step)⟩

/-! ### spec_DrawIsSorting: function 18 -/
def spec_DrawIsSorting.f (k : Nat) (l0 : List Int) : Option (Int × List Int) := (spec_l1Cur_sorter.f k l0 0 0).bind fun bt436 => (some (bt436.1, bt436.2.1))
set_option maxHeartbeats 8000000 in
set_option maxRecDepth 100000 in
theorem spec_DrawIsSorting.calls (k : Nat) (A0 : Option Addr) (c0 : Nat) (l0 : List Int) (r1 : Int) (r2 : List Int) (w : World) (hr0 : Kd.C (Kd.int .u8) w A0 l0.length l0) (hc0 : l0.length ≤ c0) (h : spec_DrawIsSorting.f k l0 = some (r1, r2)) :
  Calls Try.prog 18 #[.slice A0 l0.length c0] w fun e w' => ∃ v1_ : Value, e = .returned (.agg #[.int .i64 r1, v1_]) ∧ Kd.R (Kd.int .i64) 3 w' w.heap.size (fun _ => True) v1_ r2 ∧ Below w.heap.size w w' := by
 have hu26 := Try.underlying26; have hu48 := Try.underlying48; have HR0 := Aside0.mk hr0; have HC0 := Aside0.mk hc0; clear hr0 hc0; have HB := Zm (Below.refl w.heap.size w); have H : ((spec_l1Cur_sorter.f k l0 0 0).bind fun bt436 => (some (bt436.1, bt436.2.1))) = some (r1, r2) := h; clear h
 replace H := Option.bind_eq_some_iff.mp H; obtain ⟨⟨t436, t437, t440, t441⟩, A20, H⟩ := H; replace H : (some (t436, t437)) = some (r1, r2) := H; have A2 := Aside0.mk A20; clear A20
 simp only [Option.some.injEq, Prod.mk.injEq] at H
 obtain ⟨rfl, rfl⟩ := H
 go_enter Try.func18, Try.ntmps18
 go_wp2_with (first | ((with_reducible refine gate_dst (N := 2) rfl ?_); refine box_event ?hg (N := 2) ?hd (cs := #[.int .i64 0, .slice none 0 0]) (t := 26) ?hr ?_; (case hd => rfl); (case hg => rfl); (case hr => first | (go_simp; done) | (go_simp; rfl)); intro gb434 hg w3 hbox hb; have BK434 := Zm (hbox); have GW434 := Zx hg HB; have GE434 := Zx hg HB; replace HB := Zh HB hb; clear hb hbox hg) | ((with_reducible refine gate_dst (N := 6) rfl ?_); refine box_event ?hg (N := 6) ?hd (cs := #[.slice A0 l0.length c0, .int .i64 0, .int .u64 0]) (t := 48) ?hr ?_; (case hd => rfl); (case hg => rfl); (case hr => first | (go_simp; done) | (go_simp; rfl)); intro gb435 hg w4 hbox hb; have HI435 := Zm ((show IsS48 w w4 gb435 l0 0 0 from ⟨_, _, hbox, (by rw [hg]; exact (below_size (Zl HB))), HR0.out⟩)); have GW435 := Zx hg HB; have GE435 := Zx hg HB; replace HB := Zh HB hb; have NB434_435 := Zq hg BK434; have NB435_434 := Zp hg BK434; replace BK434 := Zk BK434 hb; clear hb hbox hg) | ((with_reducible refine gate_callee (f := 27) rfl ?_); refine Ga (some 8) Try.func27 #[.pointer (some ⟨gb435, 0, none⟩)] (h := ?_); (with_reducible refine (spec_l1Cur_sorter.calls k gb435 l0 0 0 t436 t437 t440 t441 w _ ?side1 ?side2 A2.out).mono ?_); (case side1 => repeat (first | (with_reducible first | exact HI435.out | apply IsS48.alloc | apply IsS48.drewN | apply IsS48.drew | apply IsS48.set_1 | apply IsS48.set_2 | refine IsS48.far ?_ NB435_434.out _) | exact HI435.out)); (case side2 => repeat (first | (with_reducible first | exact HB.out | apply below_alloc | apply pw_below_drewN | apply below_drew1 | refine below_set ?_ (IsS48.ge HI435.out) | refine below_set ?_ GE434.out) | exact HB.out)); rintro e w5 ⟨v438, rfl, ho0, hi, hb, hk⟩; refine ⟨_, rfl, ?_⟩; replace BK434 := Zm (KeepBut.blk hk (g' := gb434) (o := .cells #[.int .i64 0, .slice none 0 0] 26 (0, 0)) (Zb BK434) NB434_435.out (by simp)); have HO439 := Zm (Kd.R_lower ho0 (below_size (by repeat (first | (with_reducible first | exact HB.out | apply below_alloc | apply pw_below_drewN | apply below_drew1 | refine below_set ?_ (IsS48.ge HI435.out) | refine below_set ?_ GE434.out) | exact HB.out)))); replace HB := Zm (hb); replace HI435 := Zm (hi); (try clear hb); (try clear hk); (try clear hi); (try clear ho0); have hnb6 := NB434_435.out; have hnc6 := NB435_434.out; have hcz7_0 : w5.cell? ⟨gb434, 0, none⟩ = some (.int .i64 0) := (blk_cell BK434.out 0).trans rfl; have hcz7_1 : w5.cell? ⟨gb434, 1, none⟩ = some (.slice none 0 0) := (blk_cell BK434.out 1).trans rfl; have hfz7_0 := blk_frozen BK434.out 0; have hfz7_1 := blk_frozen BK434.out 1; obtain ⟨Ao8, co8, eo8⟩ := Kd.R_slice HO439.out; subst eo8))
 refine bodyPost_ret (results_cell_row rfl _ _ gb434 26 #[.int .i64 t436, .slice Ao8 t437.length co8] (0, 0) _ rfl (by (with_reducible repeat (first | refine blk_drewN ?_ _ | refine blk_drew ?_ | refine blk_alloc ?_ _)); refine blk_put (cs := #[.int .i64 t436, .slice none 0 0]) ?_ 1 _ rfl; (with_reducible repeat (first | refine blk_drewN ?_ _ | refine blk_drew ?_ | refine blk_alloc ?_ _)); refine blk_put (cs := #[.int .i64 0, .slice none 0 0]) ?_ 0 _ rfl; (with_reducible repeat (first | refine blk_drewN ?_ _ | refine blk_drew ?_ | refine blk_alloc ?_ _)); exact BK434.out) Try.underlying26 rfl (by kernel_rfl)) rfl ?_
 exact ⟨_, by first | rfl | (simp [errW_none, errW_some] <;> rfl) | (simp [*, errW_none, errW_some] <;> rfl), by (with_reducible repeat (first | apply Kd.R_alloc | apply Kd.R_drewN | apply Kd.R_drew)); exact Kd.R_mono (Kd.R_far (p := ⟨gb434, 1, none⟩) (Kd.R_far (p := ⟨gb434, 0, none⟩) (Kd.R_types HO439.out BK434.out (by decide)) (fun _ hk => hk.2) (.int .i64 t436)) (fun _ hk => hk.2) (.slice Ao8 t437.length co8)) (fun _ hk => trivial), by repeat (first | (with_reducible first | exact HB.out | apply below_alloc | apply pw_below_drewN | apply below_drew1 | refine below_set ?_ (IsS48.ge HI435.out) | refine below_set ?_ GE434.out) | exact HB.out)⟩

theorem ladder_nat {a : Int} {l : List Int} (h : impl_isLadder.f a l = some true) : ∃ n : Nat, a = (n : Int) ∧ n ≤ 8 ∧ 2 ≤ n := by
 have h2 : (decide (2 ≤ a ∧ a ≤ 8) && decide (l.length ≤ 60) && l.all fun r => decide (0 ≤ r ∧ r ≤ a - 2)) = true := Option.some.inj h
 simp only [Bool.and_eq_true, decide_eq_true_eq] at h2
 exact ⟨a.toNat, by omega, by omega, by omega⟩

/-! ### impl_CountBitsSorted: function 19 -/
-- GIVEN impl_CountBitsSorted
set_option maxHeartbeats 8000000 in
set_option maxRecDepth 100000 in
theorem impl_CountBitsSorted_1.calls (k : Nat) (W : World) (bl bm : Nat) (a : Int) (A : Option Addr) (l : List Int) (c : Nat) (m : Int) (v : Value) (xs t : List Int) (b : Bool) {base : Nat} {ok : Nat → Prop} (hr : Kd.C (Kd.int .i64) W A l.length l) (hc : l.length ≤ c)
    (hl : W.heap[bl]? = some (.cells #[.int .i64 a, .slice A l.length c] 26 (0, 0))) (hm : W.heap[bm]? = some (.cells #[.int .i64 m] 3 (0, 0))) (hv : Kd.R (Kd.int .i64) 3 W base ok v xs) (h1 : impl_sorted.f k l xs = some t) (h2 : slices_IsSorted_int_int.f k t = some b) :
    Calls Try.prog 42 #[v, .pointer (some ⟨bl, 0, none⟩), .pointer (some ⟨bm, 0, none⟩)] W fun e w' => e = .returned (.tuple #[]) ∧ Eff (fun k_ => k_ = bm) W w' ∧ w'.heap[bm]? = some (.cells #[.int .i64 (if b = true then wrap64 (m + 1) else m)] 3 (0, 0)) := by
  have hu := Try.underlying26
  obtain ⟨A1, c1, rfl, hc1, hr1⟩ := Kd.R_reads hv
  have hz0 : W.cell? ⟨bl, 0, none⟩ = some (.int .i64 a) := (blk_cell hl 0).trans rfl
  have hz1 : W.cell? ⟨bl, 1, none⟩ = some (.slice A l.length c) := (blk_cell hl 1).trans rfl
  have HM := Aside0.mk hm
  have HR := Aside0.mk hr
  have HC := Aside0.mk hc
  have HR1 := Aside0.mk hr1
  have HC1 := Aside0.mk hc1
  have A5 := Aside0.mk h1
  have A6 := Aside0.mk h2
  clear hv hr1 hc1 hr hc hl hm h1 h2
  cases b with
  | true =>
    go_enter Try.func42, Try.ntmps42
    go_wp2_with (first | ((with_reducible refine gate_callee (f := 32) rfl ?_); refine Ga (some 7) Try.func32 #[.slice A l.length c, .slice A1 xs.length c1] (h := ?_); (with_reducible refine (impl_sorted.calls k _ _ l _ _ xs t _ ?side1 ?side2 ?side3 ?side4 A5.out).mono ?_); (case side1 => exact HR.out); (case side2 => exact HC.out); (case side3 => exact HR1.out); (case side4 => exact HC1.out); rintro e w10 ⟨v476, rfl, ho0, hb⟩; refine ⟨_, rfl, ?_⟩; obtain ⟨A2, c2, rfl, hc2, hr2⟩ := Kd.R_reads ho0; have HR2 := Aside0.mk hr2; have HC2 := Aside0.mk hc2; have HB := Aside0.mk hb; have HM2 := Aside0.mk (blk_below HM.out hb); clear hr2 hc2 hb ho0; have hy0 := cell_of_one HM2.out; have hf0 := free_of_one HM2.out) | ((with_reducible refine gate_callee (f := 43) rfl ?_); refine Ga (some 8) Try.func43 #[.slice A2 t.length c2] (h := ?_); (with_reducible refine (slices_IsSorted_int_int.calls k _ _ t _ _ ?side1 ?side2 A6.out).mono ?_); (case side1 => exact HR2.out); (case side2 => exact HC2.out); rintro e w' ⟨rfl, ⟨nd, rfl⟩⟩; refine ⟨_, rfl, ?_⟩))
    go_end0
    exact ⟨rfl, eff_setS (eff_drewN (Eff.of_below HB.out) nd) (.inl rfl), one_setCell (show (w10.drewN nd).heap[bm]? = _ from HM2.out)⟩
  | false =>
    go_enter Try.func42, Try.ntmps42
    go_wp2_with (first | ((with_reducible refine gate_callee (f := 32) rfl ?_); refine Ga (some 7) Try.func32 #[.slice A l.length c, .slice A1 xs.length c1] (h := ?_); (with_reducible refine (impl_sorted.calls k _ _ l _ _ xs t _ ?side1 ?side2 ?side3 ?side4 A5.out).mono ?_); (case side1 => exact HR.out); (case side2 => exact HC.out); (case side3 => exact HR1.out); (case side4 => exact HC1.out); rintro e w10 ⟨v476, rfl, ho0, hb⟩; refine ⟨_, rfl, ?_⟩; obtain ⟨A2, c2, rfl, hc2, hr2⟩ := Kd.R_reads ho0; have HR2 := Aside0.mk hr2; have HC2 := Aside0.mk hc2; have HB := Aside0.mk hb; have HM2 := Aside0.mk (blk_below HM.out hb); clear hr2 hc2 hb ho0; have hy0 := cell_of_one HM2.out; have hf0 := free_of_one HM2.out) | ((with_reducible refine gate_callee (f := 43) rfl ?_); refine Ga (some 8) Try.func43 #[.slice A2 t.length c2] (h := ?_); (with_reducible refine (slices_IsSorted_int_int.calls k _ _ t _ _ ?side1 ?side2 A6.out).mono ?_); (case side1 => exact HR2.out); (case side2 => exact HC2.out); rintro e w' ⟨rfl, ⟨nd, rfl⟩⟩; refine ⟨_, rfl, ?_⟩))
    go_end0
    exact ⟨rfl, eff_drewN (Eff.of_below HB.out) nd, HM2.out⟩
/-- A round: is the list sorted behind the rungs? -/
def impl_CountBitsSorted.step (k : Nat) (l : List Int) (m : Int) (xs : List Int) : Option Int := (impl_sorted.f k l xs).bind fun t => (slices_IsSorted_int_int.f k t).bind fun b => some (if b = true then wrap64 (m + 1) else m)
/-- What the function value's blocks hold. -/
def impl_CountBitsSorted.I (w0 : World) (bl bm : Nat) (a : Int) (A : Option Addr) (l : List Int) (c : Nat) (m : Int) (S : Nat → Prop) (W : World) : Prop :=
  (∀ k, S k ↔ (k = bl ∨ k = bm)) ∧ (∀ k, k < w0.heap.size → W.heap[k]? = w0.heap[k]?) ∧ W.heap[bl]? = some (.cells #[.int .i64 a, .slice A l.length c] 26 (0, 0)) ∧ W.heap[bm]? = some (.cells #[.int .i64 m] 3 (0, 0))
theorem impl_CountBitsSorted.clo (w0 : World) (bl bm : Nat) (a : Int) (A : Option Addr) (l : List Int) (c : Nat) (k : Nat) (hr : Kd.C (Kd.int .i64) w0 A l.length l) (hc : l.length ≤ c) (hbl : w0.heap.size ≤ bl) (hbm : w0.heap.size ≤ bm) : CloList 42 #[.pointer (some ⟨bl, 0, none⟩), .pointer (some ⟨bm, 0, none⟩)] w0.heap.size (impl_CountBitsSorted.I w0 bl bm a A l c) (impl_CountBitsSorted.step k l) where
  enters := enters_of Try.func42 (by kernel_rfl) rfl
  lt := fun s S W q hI hq => by
    obtain ⟨h1, h2, h3, h4⟩ := hI
    rcases (h1 q).1 hq with rfl | rfl
    · exact blk_lt h3
    · exact blk_lt h4
  move := fun s S W W' hI hm hsz => by
    obtain ⟨h1, h2, h3, h4⟩ := hI
    have hs : w0.heap.size ≤ W.heap.size := by have := blk_lt h3; omega
    exact ⟨h1, fun q hq => (hm q (by omega) (.inl hq)).trans (h2 q hq), (hm bl (blk_lt h3) (.inr ((h1 bl).2 (.inl rfl)))).trans h3, (hm bm (blk_lt h4) (.inr ((h1 bm).2 (.inr rfl)))).trans h4⟩
  call := fun s s' S W v xs hI hv hst => by
    obtain ⟨h1, h2, h3, h4⟩ := hI
    unfold impl_CountBitsSorted.step at hst
    obtain ⟨t, e1, hst⟩ := Option.bind_eq_some_iff.mp hst
    obtain ⟨b, e2, hst⟩ := Option.bind_eq_some_iff.mp hst
    obtain rfl := Option.some.inj hst
    have hne : bl ≠ bm := blk_ne h3 h4 (by decide)
    refine (impl_CountBitsSorted_1.calls k W bl bm a A l c s v xs t b ((Kd.heap_int .i64).C h2 hr) hc h3 h4 hv e1 e2).mono ?_
    rintro e w' ⟨rfl, he, hb⟩
    refine ⟨rfl, S, ⟨h1, fun q hq => ?_, ?_, hb⟩, ⟨he.b, he.k.mono (fun q hq => (h1 q).2 (.inr hq))⟩, fun q hq => .inl hq⟩
    · exact (he.k.2 q (by have := blk_lt h3; omega) (by show ¬ q = bm; omega)).trans (h2 q hq)
    · exact blk_kept h3 he.k (by show ¬ bl = bm; exact hne)
def impl_CountBitsSorted.f (k : Nat) (a0_0 : Int) (l0_1 : List Int) : Option (Int × Bool) := (impl_isLadder.f a0_0 l0_1).bind fun t1 => (if t1 = true then ((bitsFold (impl_CountBitsSorted.step k l0_1) a0_0.toNat (2 ^ a0_0.toNat) 0 (0 : Int)).bind fun m => some (m, true)) else (some (0, false)))
set_option maxHeartbeats 8000000 in
set_option maxRecDepth 100000 in
theorem impl_CountBitsSorted.calls (k : Nat) (a0_0 : Int) (A0_1 : Option Addr) (c0_1 : Nat) (l0_1 : List Int) (r1 : Int) (r2 : Bool) (w : World) (hr0_1 : Kd.C (Kd.int .i64) w A0_1 l0_1.length l0_1) (hc0_1 : l0_1.length ≤ c0_1) (h : impl_CountBitsSorted.f k a0_0 l0_1 = some (r1, r2)) :
    Calls Try.prog 19 #[.agg #[.int .i64 a0_0, .slice A0_1 l0_1.length c0_1]] w fun e w' => e = .returned (.tuple #[.int .i64 r1, .bool r2]) ∧ Below w.heap.size w w' := by
  have hu := Try.underlying26
  have hmf : ∀ (fn : Fn) (first cap : Array Value) (w : World), (Instr.makeFunc fn first cap).run Try.prog w = .ok (.func fn first cap) w := fun _ _ _ _ => rfl
  have HR0_1 := Aside0.mk hr0_1
  have HC0_1 := Aside0.mk hc0_1
  clear hr0_1 hc0_1
  have HB := Aside0.mk (Below.refl w.heap.size w)
  unfold impl_CountBitsSorted.f at h
  replace h := Option.bind_eq_some_iff.mp h
  obtain ⟨t1, e1, h⟩ := h
  have A2 := Aside0.mk e1
  clear e1
  cases t1 with
  | true =>
    rw [if_pos rfl] at h
    replace h := Option.bind_eq_some_iff.mp h
    obtain ⟨m, e2, h⟩ := h
    simp only [Option.some.injEq, Prod.mk.injEq] at h
    obtain ⟨rfl, rfl⟩ := h
    obtain ⟨n, rfl, hn8, hn2⟩ := ladder_nat A2.out
    have A3 := Aside0.mk e2
    clear e2
    have CL := Aside0.mk (fun bl bm h1 h2 => impl_CountBitsSorted.clo w bl bm (n : Int) A0_1 l0_1 c0_1 k HR0_1.out HC0_1.out h1 h2)
    go_enter Try.func19, Try.ntmps19
    go_wp2_with (first | ((with_reducible refine gate_dst (N := 1) rfl ?_); refine box_event ?hg (N := 1) ?hd (cs := #[.int .i64 (n : Int), .slice A0_1 l0_1.length c0_1]) (t := 26) ?hr ?_; (case hd => rfl); (case hg => rfl); (case hr => first | (go_simp; done) | (go_simp; rfl)); intro gb hg w5 hbox hb; have n0_ := Aside0.mk (below_step HB.out hb); have n1_ := Aside0.mk (hbox); have n2_ := Aside0.mk ((by rw [hg]; exact (below_size HB.out)) : w.heap.size ≤ gb); clear HB; have HB := n0_; have BK := n1_; have GE := n2_; clear n0_ n1_ n2_; clear hb hbox hg; have hcz6_0 : w5.cell? ⟨gb, 0, none⟩ = some (.int .i64 (n : Int)) := (blk_cell BK.out 0).trans rfl; have hcz6_1 : w5.cell? ⟨gb, 1, none⟩ = some (.slice A0_1 l0_1.length c0_1) := (blk_cell BK.out 1).trans rfl) | ((with_reducible refine gate_callee (f := 31) rfl ?_); refine Ga (some 6) Try.func31 #[.agg #[.int .i64 (n : Int), .slice A0_1 l0_1.length c0_1]] (h := ?_); (with_reducible refine (impl_isLadder.calls (n : Int) _ _ l0_1 true _ ?side1 ?side2 A2.out).mono ?_); (case side1 => exact (Kd.C_below HR0_1.out HB.out)); (case side2 => exact HC0_1.out); rintro e w7 ⟨rfl, hb⟩; refine ⟨_, rfl, ?_⟩; have n0_ := Aside0.mk (blk_below BK.out hb); have n1_ := Aside0.mk (below_step HB.out hb); clear BK; clear HB; have BK := n0_; have HB := n1_; clear n0_ n1_; clear hb; have hcz8_0 : w7.cell? ⟨gb, 0, none⟩ = some (.int .i64 (n : Int)) := (blk_cell BK.out 0).trans rfl; have hcz8_1 : w7.cell? ⟨gb, 1, none⟩ = some (.slice A0_1 l0_1.length c0_1) := (blk_cell BK.out 1).trans rfl; have hgl8 := blk_lt BK.out) | (go_at_call 41; refine (impl_bits.calls (impl_CountBitsSorted.step k l0_1) (impl_CountBitsSorted.I w gb w7.heap.size (n : Int) A0_1 l0_1 c0_1) 42 _ w.heap.size (CL.out gb w7.heap.size GE.out (below_size HB.out)) n hn8 (0 : Int) (fun k_ => k_ = gb ∨ k_ = w7.heap.size) m _ ⟨fun _ => Iff.rfl, fun k_ hk_ => (Below.heap_alloc w7 _ k_ (Nat.lt_of_lt_of_le hk_ HB.out.size)).trans (HB.out.block k_ hk_), blk_alloc BK.out _, blk_new w7 _⟩ (below_size (below_alloc HB.out _)) A3.out).mono ?_; rintro e w9 ⟨rfl, S', hI, he, hs⟩; have hx0 := cell_of_one hI.2.2.2; have n0_ := Aside0.mk (eff_below (below_alloc HB.out _) he (fun k_ h_ => h_.elim (fun e_ => e_ ▸ GE.out) (fun e_ => e_ ▸ below_size HB.out))); clear HB; have HB := n0_; clear n0_ hI he hs))
    go_ret2
    exact ⟨rfl, HB.out⟩
  | false =>
    rw [if_neg (by decide)] at h
    simp only [Option.some.injEq, Prod.mk.injEq] at h
    obtain ⟨rfl, rfl⟩ := h
    go_enter Try.func19, Try.ntmps19
    go_wp2_with (first | ((with_reducible refine gate_dst (N := 1) rfl ?_); refine box_event ?hg (N := 1) ?hd (cs := #[.int .i64 a0_0, .slice A0_1 l0_1.length c0_1]) (t := 26) ?hr ?_; (case hd => rfl); (case hg => rfl); (case hr => first | (go_simp; done) | (go_simp; rfl)); intro gb hg w5 hbox hb; have n0_ := Aside0.mk (below_step HB.out hb); have n1_ := Aside0.mk (hbox); have n2_ := Aside0.mk ((by rw [hg]; exact (below_size HB.out)) : w.heap.size ≤ gb); clear HB; have HB := n0_; have BK := n1_; have GE := n2_; clear n0_ n1_ n2_; clear hb hbox hg; have hcz6_0 : w5.cell? ⟨gb, 0, none⟩ = some (.int .i64 a0_0) := (blk_cell BK.out 0).trans rfl; have hcz6_1 : w5.cell? ⟨gb, 1, none⟩ = some (.slice A0_1 l0_1.length c0_1) := (blk_cell BK.out 1).trans rfl) | ((with_reducible refine gate_callee (f := 31) rfl ?_); refine Ga (some 6) Try.func31 #[.agg #[.int .i64 a0_0, .slice A0_1 l0_1.length c0_1]] (h := ?_); (with_reducible refine (impl_isLadder.calls a0_0 _ _ l0_1 false _ ?side1 ?side2 A2.out).mono ?_); (case side1 => exact (Kd.C_below HR0_1.out HB.out)); (case side2 => exact HC0_1.out); rintro e w7 ⟨rfl, hb⟩; refine ⟨_, rfl, ?_⟩; have n0_ := Aside0.mk (blk_below BK.out hb); have n1_ := Aside0.mk (below_step HB.out hb); clear BK; clear HB; have BK := n0_; have HB := n1_; clear n0_ n1_; clear hb; have hcz8_0 : w7.cell? ⟨gb, 0, none⟩ = some (.int .i64 a0_0) := (blk_cell BK.out 0).trans rfl; have hcz8_1 : w7.cell? ⟨gb, 1, none⟩ = some (.slice A0_1 l0_1.length c0_1) := (blk_cell BK.out 1).trans rfl; have hgl8 := blk_lt BK.out))
    go_ret2
    exact ⟨rfl, HB.out⟩

/-! ### spec_CountBitsSorted: function 20 -/
def spec_CountBitsSorted.l0 : Nat → Int → Int → Int → List Int → Option (Int × Bool)
 | 0, _, _, _, _ => none
 | k + 1, x4, x5, x443000, x443001 => if 0 ≤ x443000 then (if x5 < (shl .i64 1 x443000) then ((spec_soBits.f k x443000 x5).bind fun t444 => ((spec_soSorted.f k x443001 t444).bind fun t447 => (if t447 = true then (spec_CountBitsSorted.l0 k (wrap64 (x4 + 1)) (wrap64 (x5 + 1)) x443000 x443001) else (spec_CountBitsSorted.l0 k x4 (wrap64 (x5 + 1)) x443000 x443001)))) else (some (x4, true))) else (none)
def spec_CountBitsSorted.f (k : Nat) (a0_0 : Int) (l0_1 : List Int) : Option (Int × Bool) := (spec_laGood.f k a0_0 l0_1).bind fun t443 => (if t443 = true then (spec_CountBitsSorted.l0 k 0 0 a0_0 l0_1) else (some (0, false)))
set_option maxHeartbeats 8000000 in
set_option maxRecDepth 100000 in
theorem spec_CountBitsSorted.calls (k : Nat) (a0_0 : Int) (A0_1 : Option Addr) (c0_1 : Nat) (l0_1 : List Int) (r1 : Int) (r2 : Bool) (w : World) (hr0_1 : Kd.C (Kd.int .i64) w A0_1 l0_1.length l0_1) (hc0_1 : l0_1.length ≤ c0_1) (h : spec_CountBitsSorted.f k a0_0 l0_1 = some (r1, r2)) :
  Calls Try.prog 20 #[.agg #[.int .i64 a0_0, .slice A0_1 l0_1.length c0_1]] w fun e w' => e = .returned (.tuple #[.int .i64 r1, .bool r2]) ∧ Below w.heap.size w w' := by
 have hu26 := Try.underlying26; have HR0_1 := Aside0.mk hr0_1; have HC0_1 := Aside0.mk hc0_1; clear hr0_1 hc0_1; have HB := Zm (Below.refl w.heap.size w); have H : ((spec_laGood.f k a0_0 l0_1).bind fun t443 => (if t443 = true then (spec_CountBitsSorted.l0 k 0 0 a0_0 l0_1) else (some (0, false)))) = some (r1, r2) := h; clear h
 replace H := Option.bind_eq_some_iff.mp H; obtain ⟨t443, A20, H⟩ := H; replace H : (if t443 = true then (spec_CountBitsSorted.l0 k 0 0 a0_0 l0_1) else (some (0, false))) = some (r1, r2) := H; have A2 := Aside0.mk A20; clear A20
 by_cases c3 : t443 = true
 ·
  subst c3
  rw [if_pos rfl] at H
  have H' := Aside0.mk H; clear H
  go_enter Try.func20, Try.ntmps20
  go_wp2_with (first | ((with_reducible refine gate_dst (N := 1) rfl ?_); refine box_event ?hg (N := 1) ?hd (cs := #[.int .i64 a0_0, .slice A0_1 l0_1.length c0_1]) (t := 26) ?hr ?_; (case hd => rfl); (case hg => rfl); (case hr => first | (go_simp; done) | (go_simp; rfl)); intro gb442 hg w4 hbox hb; have BK442 := Zm (hbox); have GW442 := Zx hg HB; have GE442 := Zx hg HB; replace HB := Zh HB hb; clear hb hbox hg; have hcz5_0 : w4.cell? ⟨gb442, 0, none⟩ = some (.int .i64 a0_0) := (blk_cell BK442.out 0).trans rfl; have hcz5_1 : w4.cell? ⟨gb442, 1, none⟩ = some (.slice A0_1 l0_1.length c0_1) := (blk_cell BK442.out 1).trans rfl; have hfz5_0 := blk_frozen BK442.out 0; have hfz5_1 := blk_frozen BK442.out 1) | ((with_reducible refine gate_callee (f := 38) rfl ?_); refine Ga (some 7) Try.func38 #[.agg #[.int .i64 a0_0, .slice A0_1 l0_1.length c0_1]] (h := ?_); (with_reducible refine (spec_laGood.calls k a0_0 _ _ l0_1 true _ ?side1 ?side2 A2.out).mono ?_); (case side1 => repeat (first | exact (Kd.C_below HR0_1.out HB.out) | (with_reducible refine Kd.C_alloc ?_ _) | (with_reducible refine Kd.C_drewN ?_ _) | (with_reducible refine Kd.C_drew ?_))); (case side2 => exact HC0_1.out); rintro e w6 ⟨rfl, hb⟩; refine ⟨_, rfl, ?_⟩; replace BK442 := Zk BK442 hb; replace HB := Zh HB hb; (try clear hb); (try clear hb2); (try clear hk); (try clear hi)))
  go_loopg [4, 5] k (fun kq v4 v5 w' => ∃ (x4_1 : Int) (x5_1 : Int), v4 = .int .i64 x4_1 ∧ v5 = .int .i64 x5_1 ∧ Aside0 (spec_CountBitsSorted.l0 kq x4_1 x5_1 a0_0 l0_1 = some (r1, r2)) ∧ Aside0 (kq ≤ k) ∧ Aside0 (w'.heap[gb442]? = some (.cells #[.int .i64 a0_0, (.slice A0_1 l0_1.length c0_1)] 26 (0, 0))) ∧ Aside0 (Below w.heap.size w w'))
  case atStart => exact ⟨(0), (0), (by first | rfl | (simp; done) | (simp [*]; done)), (by first | rfl | (simp; done) | (simp [*]; done)), H', ⟨Nat.le_refl _⟩, ⟨Zb BK442⟩, ⟨Zl HB⟩⟩
  case round =>
   (clear H'; (try clear c2); (try clear p2); (try clear c3); (try clear hcz5_0); (try clear hcz5_1); (try clear hfz5_0); (try clear hfz5_1)); obtain ⟨x4_1, x5_1, rfl, rfl, HA, HK1, BK442, HB⟩ := hrel
   cases gk with
   | zero => exact absurd HA.out (by simp [spec_CountBitsSorted.l0])
   | succ k1 =>
    have H := HA.out; clear HA
    simp only [spec_CountBitsSorted.l0] at H
    by_cases c7 : 0 ≤ a0_0
    ·
     rw [if_pos c7] at H; have c7b0 := eq_true c7; have c7b1 : decide (0 ≤ a0_0) = true := decide_eq_true c7; clear c7; obtain ⟨ji8, hji8⟩ : ∃ j_ : Int, (shl .i64 1 a0_0) = j_ := ⟨_, rfl⟩; (replace H : (if x5_1 < (ji8) then ((spec_soBits.f k1 a0_0 x5_1).bind fun t444 => ((spec_soSorted.f k1 l0_1 t444).bind fun t447 => (if t447 = true then (spec_CountBitsSorted.l0 k1 (wrap64 (x4_1 + 1)) (wrap64 (x5_1 + 1)) a0_0 l0_1) else (spec_CountBitsSorted.l0 k1 x4_1 (wrap64 (x5_1 + 1)) a0_0 l0_1)))) else (some (x4_1, true))) = some (r1, r2) := by first | (rw [hji8] at H; exact H) | (simp only [hji8] at H ⊢; exact H))
     have hji8_ : (IntKind.i64.wrap (1 * 2 ^ min a0_0.toNat 64)) = ji8 := hji8; have hji8z : a0_0 ≤ 64 → (IntKind.i64.wrap (1 * 2 ^ a0_0.toNat)) = ji8 := shl_small hji8
     have hji8u : (IntKind.i64.wrap (2 ^ min a0_0.toNat 64)) = ji8 := by have h_ := hji8_; rw [Int.one_mul] at h_; exact h_
     have hji8v : a0_0 ≤ 64 → (IntKind.i64.wrap (2 ^ a0_0.toNat)) = ji8 := fun hle_ => by have h_ := hji8z hle_; rw [Int.one_mul] at h_; exact h_
     have hji8y : (wrap64 (1 * 2 ^ min a0_0.toNat 64)) = ji8 := (i64_w _).symm.trans hji8_
     have hji8x : a0_0 ≤ 64 → (wrap64 (1 * 2 ^ a0_0.toNat)) = ji8 := fun h_ => (i64_w _).symm.trans (hji8z h_)
     by_cases c9 : x5_1 < (ji8)
     ·
      rw [if_pos c9] at H; have c9b0 : decide (x5_1 < (ji8)) = true := decide_eq_true c9; clear c9; replace H := Option.bind_eq_some_iff.mp H; obtain ⟨t444, A100, H⟩ := H; (replace H : ((spec_soSorted.f k1 l0_1 t444).bind fun t447 => (if t447 = true then (spec_CountBitsSorted.l0 k1 (wrap64 (x4_1 + 1)) (wrap64 (x5_1 + 1)) a0_0 l0_1) else (spec_CountBitsSorted.l0 k1 x4_1 (wrap64 (x5_1 + 1)) a0_0 l0_1))) = some (r1, r2) := H); have A10 := Aside0.mk A100; clear A100; replace H := Option.bind_eq_some_iff.mp H; obtain ⟨t447, A110, H⟩ := H; replace H : (if t447 = true then (spec_CountBitsSorted.l0 k1 (wrap64 (x4_1 + 1)) (wrap64 (x5_1 + 1)) a0_0 l0_1) else (spec_CountBitsSorted.l0 k1 x4_1 (wrap64 (x5_1 + 1)) a0_0 l0_1)) = some (r1, r2) := H; have A11 := Aside0.mk A110; clear A110
      by_cases c12 : t447 = true
      ·
       subst c12
       rw [if_pos rfl] at H
       have H' := Aside0.mk H; clear H; have hcz13_0 : wr.cell? ⟨gb442, 0, none⟩ = some (.int .i64 a0_0) := (blk_cell BK442.out 0).trans rfl; have hcz13_1 : wr.cell? ⟨gb442, 1, none⟩ = some (.slice A0_1 l0_1.length c0_1) := (blk_cell BK442.out 1).trans rfl; have hfz13_0 := blk_frozen BK442.out 0; have hfz13_1 := blk_frozen BK442.out 1
       try go_wp2
       replace BK442 := Zm (blk_drew BK442.out); replace HB := Zm (below_drew1 HB.out)
       refine start_ (n := 7) (S := fun w' => w'.cell? ⟨gb442, 0, none⟩ = some (.int .i64 a0_0) ∧ w'.cell? ⟨gb442, 1, none⟩ = some (.slice A0_1 l0_1.length c0_1)) (ds := []) (fl 7 0) (by kernel_rfl) rfl rfl ⟨(blk_cell BK442.out 0).trans rfl, (blk_cell BK442.out 1).trans rfl⟩ (fun hHeld => ?_)
       generalize wr.drew = w14 at BK442 HB hHeld ⊢
       refine pure_ (i := 0) (N := some 16) (v := ?_) (a' := ?_) (fl 7 1) rfl rfl (by kernel_rfl) (fun _ _ _ h => h) (Or.inl ⟨by rfl, ?_⟩) ?_ ?_
       rotate_left
       ·
        intro w'
        go_simp
        with_reducible rfl
       rotate_left
       ·
        simp only [Act.put, List.setIfInBounds_toArray, List.set_cons_zero, List.set_cons_succ, i64_w, i32_w]
        rfl
       refine pure_ (i := 2) (N := some 18) (v := ?_) (a' := ?_) (fl 7 5) rfl rfl (by kernel_rfl) (fun _ _ _ h => h) (Or.inl ⟨by rfl, ?_⟩) ?_ ?_
       rotate_left
       ·
        intro w'
        go_simp
        with_reducible rfl
       rotate_left
       ·
        simp only [Act.put, List.setIfInBounds_toArray, List.set_cons_zero, List.set_cons_succ, i64_w, i32_w]
        rfl
       refine pure_ (i := 4) (N := some 20) (v := ?_) (a' := ?_) (fl 7 21) rfl rfl (by kernel_rfl) (fun _ _ _ h => h) (Or.inl ⟨by rfl, ?_⟩) ?_ ?_
       rotate_left
       ·
        intro w'
        go_simp
        with_reducible rfl
       rotate_left
       ·
        simp only [Act.put, List.setIfInBounds_toArray, List.set_cons_zero, List.set_cons_succ, i64_w, i32_w]
        rfl
       refine take_ (i := 1) (N := some 17) (v := ?_) (a' := ?_) (fl 7 23) rfl rfl (by kernel_rfl) (fun _ _ _ h => h) (Or.inl ⟨by rfl, ?_⟩) hHeld ?_ ?_
       rotate_left
       ·
        rintro w' ⟨s0, s1⟩
        go_simp
        with_reducible rfl
       rotate_left
       ·
        simp only [Act.put, List.setIfInBounds_toArray, List.set_cons_zero, List.set_cons_succ, i64_w, i32_w]
        rfl
       refine take_ (i := 3) (N := some 19) (v := ?_) (a' := ?_) (fl 7 31) rfl rfl (by kernel_rfl) (fun _ _ _ h => h) (Or.inl ⟨by rfl, ?_⟩) hHeld ?_ ?_
       rotate_left
       ·
        rintro w' ⟨s0, s1⟩
        go_simp
        with_reducible rfl
       rotate_left
       ·
        simp only [Act.put, List.setIfInBounds_toArray, List.set_cons_zero, List.set_cons_succ, i64_w, i32_w]
        rfl
       refine one_ (i := 5) (N := some 21) (fl 7 63) rfl rfl (by kernel_rfl) (by decide) (fun K hK => ?_)
       refine goes_ Try.func45 (by kernel_rfl) rfl #[.int .i64 a0_0, .int .i64 x5_1] (by rfl) rfl rfl (by (try simp only [List.map_toArray, List.map_cons, List.map_nil]); first | done | rfl) ?_
       with_reducible refine (spec_soBits.calls k1 a0_0 x5_1 t444 _ A10.out).mono ?_
       rintro e w15 ⟨v445, rfl, ho0, hb⟩
       refine ⟨_, rfl, ?_⟩
       have HO446 := Zj ho0 HB; replace BK442 := Zk BK442 hb; replace HB := Zh HB hb; (try clear hb); (try clear hb2); (try clear hk); (try clear hi); (try clear ho0); obtain ⟨Ao16, co16, eo16⟩ := Kd.R_slice HO446.out
       (first | subst eo16 | (injection eo16 with f1_ f2_ f3_; have f4_ := f1_.symm; have f5_ := f3_.symm; clear f1_ f2_ f3_; subst f4_; subst f5_))
       refine hK.out _ _ ⟨(blk_cell BK442.out 0).trans rfl, (blk_cell BK442.out 1).trans rfl⟩ (fun hHeld => ?_)
       clear hK K; refine Yn 21 (h := ?_)
       refine one_ (i := 6) (N := some 22) (fl 7 127) rfl rfl (by kernel_rfl) (by decide) (fun K hK => ?_)
       refine goes_ Try.func44 (by kernel_rfl) rfl #[.slice A0_1 l0_1.length c0_1, .slice Ao16 t444.length co16] (by rfl) rfl rfl (by (try simp only [List.map_toArray, List.map_cons, List.map_nil]); first | done | rfl) ?_
       with_reducible refine (spec_soSorted.calls k1 _ _ l0_1 _ _ t444 true _ ?side1 ?side2 ?side3 ?side4 A11.out).mono ?_
       (case side1 => repeat (first | exact (Kd.C_below HR0_1.out HB.out) | (with_reducible refine Kd.C_alloc ?_ _) | (with_reducible refine Kd.C_drewN ?_ _) | (with_reducible refine Kd.C_drew ?_)))
       (case side2 => exact HC0_1.out)
       (case side3 => repeat (first | exact (Kd.R_reads' HO446.out).2.2 | (with_reducible refine Kd.C_alloc ?_ _) | (with_reducible refine Kd.C_drewN ?_ _) | (with_reducible refine Kd.C_drew ?_)))
       (case side4 => exact (Kd.R_reads' HO446.out).2.1)
       rintro e w17 ⟨rfl, hb⟩
       refine ⟨_, rfl, ?_⟩
       replace HO446 := Zo HO446 hb; replace BK442 := Zk BK442 hb; replace HB := Zh HB hb
       (try clear hb); (try clear hb2); (try clear hk); (try clear hi)
       refine hK.out _ _ ⟨(blk_cell BK442.out 0).trans rfl, (blk_cell BK442.out 1).trans rfl⟩ (fun hHeld => ?_)
       clear hK K; refine Yn 22 (h := ?_)
       refine done_ (by kernel_rfl) ?_
       try go_wp2
       go_roundg k1
       case measure => have := HK1.out; omega
       case rel => exact ⟨(wrap64 (x4_1 + 1)), (wrap64 (x5_1 + 1)), (by first | rfl | (simp; done) | (simp [*]; done)), (by first | rfl | (simp; done) | (simp [*]; done)), H', ⟨by have := HK1.out; omega⟩, ⟨Zb BK442⟩, ⟨Zl HB⟩⟩
      ·
       replace c12 := Bool.eq_false_iff.mpr c12
       subst c12
       rw [if_neg Bool.false_ne_true] at H
       have H' := Aside0.mk H; clear H; have hcz18_0 : wr.cell? ⟨gb442, 0, none⟩ = some (.int .i64 a0_0) := (blk_cell BK442.out 0).trans rfl; have hcz18_1 : wr.cell? ⟨gb442, 1, none⟩ = some (.slice A0_1 l0_1.length c0_1) := (blk_cell BK442.out 1).trans rfl; have hfz18_0 := blk_frozen BK442.out 0; have hfz18_1 := blk_frozen BK442.out 1
       try go_wp2
       replace BK442 := Zm (blk_drew BK442.out); replace HB := Zm (below_drew1 HB.out)
       refine start_ (n := 7) (S := fun w' => w'.cell? ⟨gb442, 0, none⟩ = some (.int .i64 a0_0) ∧ w'.cell? ⟨gb442, 1, none⟩ = some (.slice A0_1 l0_1.length c0_1)) (ds := []) (fl 7 0) (by kernel_rfl) rfl rfl ⟨(blk_cell BK442.out 0).trans rfl, (blk_cell BK442.out 1).trans rfl⟩ (fun hHeld => ?_)
       generalize wr.drew = w19 at BK442 HB hHeld ⊢
       refine pure_ (i := 0) (N := some 16) (v := ?_) (a' := ?_) (fl 7 1) rfl rfl (by kernel_rfl) (fun _ _ _ h => h) (Or.inl ⟨by rfl, ?_⟩) ?_ ?_
       rotate_left
       ·
        intro w'
        go_simp
        with_reducible rfl
       rotate_left
       ·
        simp only [Act.put, List.setIfInBounds_toArray, List.set_cons_zero, List.set_cons_succ, i64_w, i32_w]
        rfl
       refine pure_ (i := 2) (N := some 18) (v := ?_) (a' := ?_) (fl 7 5) rfl rfl (by kernel_rfl) (fun _ _ _ h => h) (Or.inl ⟨by rfl, ?_⟩) ?_ ?_
       rotate_left
       ·
        intro w'
        go_simp
        with_reducible rfl
       rotate_left
       ·
        simp only [Act.put, List.setIfInBounds_toArray, List.set_cons_zero, List.set_cons_succ, i64_w, i32_w]
        rfl
       refine pure_ (i := 4) (N := some 20) (v := ?_) (a' := ?_) (fl 7 21) rfl rfl (by kernel_rfl) (fun _ _ _ h => h) (Or.inl ⟨by rfl, ?_⟩) ?_ ?_
       rotate_left
       ·
        intro w'
        go_simp
        with_reducible rfl
       rotate_left
       ·
        simp only [Act.put, List.setIfInBounds_toArray, List.set_cons_zero, List.set_cons_succ, i64_w, i32_w]
        rfl
       refine take_ (i := 1) (N := some 17) (v := ?_) (a' := ?_) (fl 7 23) rfl rfl (by kernel_rfl) (fun _ _ _ h => h) (Or.inl ⟨by rfl, ?_⟩) hHeld ?_ ?_
       rotate_left
       ·
        rintro w' ⟨s0, s1⟩
        go_simp
        with_reducible rfl
       rotate_left
       ·
        simp only [Act.put, List.setIfInBounds_toArray, List.set_cons_zero, List.set_cons_succ, i64_w, i32_w]
        rfl
       refine take_ (i := 3) (N := some 19) (v := ?_) (a' := ?_) (fl 7 31) rfl rfl (by kernel_rfl) (fun _ _ _ h => h) (Or.inl ⟨by rfl, ?_⟩) hHeld ?_ ?_
       rotate_left
       ·
        rintro w' ⟨s0, s1⟩
        go_simp
        with_reducible rfl
       rotate_left
       ·
        simp only [Act.put, List.setIfInBounds_toArray, List.set_cons_zero, List.set_cons_succ, i64_w, i32_w]
        rfl
       refine one_ (i := 5) (N := some 21) (fl 7 63) rfl rfl (by kernel_rfl) (by decide) (fun K hK => ?_)
       refine goes_ Try.func45 (by kernel_rfl) rfl #[.int .i64 a0_0, .int .i64 x5_1] (by rfl) rfl rfl (by (try simp only [List.map_toArray, List.map_cons, List.map_nil]); first | done | rfl) ?_
       with_reducible refine (spec_soBits.calls k1 a0_0 x5_1 t444 _ A10.out).mono ?_
       rintro e w20 ⟨v445, rfl, ho0, hb⟩
       refine ⟨_, rfl, ?_⟩
       have HO446 := Zj ho0 HB; replace BK442 := Zk BK442 hb; replace HB := Zh HB hb; (try clear hb); (try clear hb2); (try clear hk); (try clear hi); (try clear ho0); obtain ⟨Ao21, co21, eo21⟩ := Kd.R_slice HO446.out
       (first | subst eo21 | (injection eo21 with f1_ f2_ f3_; have f4_ := f1_.symm; have f5_ := f3_.symm; clear f1_ f2_ f3_; subst f4_; subst f5_))
       refine hK.out _ _ ⟨(blk_cell BK442.out 0).trans rfl, (blk_cell BK442.out 1).trans rfl⟩ (fun hHeld => ?_)
       clear hK K; refine Yn 21 (h := ?_)
       refine one_ (i := 6) (N := some 22) (fl 7 127) rfl rfl (by kernel_rfl) (by decide) (fun K hK => ?_)
       refine goes_ Try.func44 (by kernel_rfl) rfl #[.slice A0_1 l0_1.length c0_1, .slice Ao21 t444.length co21] (by rfl) rfl rfl (by (try simp only [List.map_toArray, List.map_cons, List.map_nil]); first | done | rfl) ?_
       with_reducible refine (spec_soSorted.calls k1 _ _ l0_1 _ _ t444 false _ ?side1 ?side2 ?side3 ?side4 A11.out).mono ?_
       (case side1 => repeat (first | exact (Kd.C_below HR0_1.out HB.out) | (with_reducible refine Kd.C_alloc ?_ _) | (with_reducible refine Kd.C_drewN ?_ _) | (with_reducible refine Kd.C_drew ?_)))
       (case side2 => exact HC0_1.out)
       (case side3 => repeat (first | exact (Kd.R_reads' HO446.out).2.2 | (with_reducible refine Kd.C_alloc ?_ _) | (with_reducible refine Kd.C_drewN ?_ _) | (with_reducible refine Kd.C_drew ?_)))
       (case side4 => exact (Kd.R_reads' HO446.out).2.1)
       rintro e w22 ⟨rfl, hb⟩
       refine ⟨_, rfl, ?_⟩
       replace HO446 := Zo HO446 hb; replace BK442 := Zk BK442 hb; replace HB := Zh HB hb
       (try clear hb); (try clear hb2); (try clear hk); (try clear hi)
       refine hK.out _ _ ⟨(blk_cell BK442.out 0).trans rfl, (blk_cell BK442.out 1).trans rfl⟩ (fun hHeld => ?_)
       clear hK K; refine Yn 22 (h := ?_)
       refine done_ (by kernel_rfl) ?_
       try go_wp2
       go_roundg k1
       case measure => have := HK1.out; omega
       case rel => exact ⟨(x4_1), (wrap64 (x5_1 + 1)), (by first | rfl | (simp; done) | (simp [*]; done)), (by first | rfl | (simp; done) | (simp [*]; done)), H', ⟨by have := HK1.out; omega⟩, ⟨Zb BK442⟩, ⟨Zl HB⟩⟩
     ·
      rw [if_neg c9] at H; have c9b0 : decide (x5_1 < (ji8)) = false := decide_eq_false c9; clear c9
      simp only [Option.some.injEq, Prod.mk.injEq] at H
      obtain ⟨rfl, rfl⟩ := H
      have hcz23_0 : wr.cell? ⟨gb442, 0, none⟩ = some (.int .i64 a0_0) := (blk_cell BK442.out 0).trans rfl; have hcz23_1 : wr.cell? ⟨gb442, 1, none⟩ = some (.slice A0_1 l0_1.length c0_1) := (blk_cell BK442.out 1).trans rfl; have hfz23_0 := blk_frozen BK442.out 0; have hfz23_1 := blk_frozen BK442.out 1
      go_wp2
      go_ret2
      exact ⟨by first | rfl | (simp [errW_none, errW_some] <;> rfl) | (simp only [← hji8]; first | rfl | (simp [errW_none, errW_some] <;> rfl)) | (simp [*, errW_none, errW_some] <;> rfl), Zl HB⟩
    ·
     rw [if_neg c7] at H
     exact absurd H (by simp)
 ·
  replace c3 := Bool.eq_false_iff.mpr c3
  subst c3
  rw [if_neg Bool.false_ne_true] at H
  simp only [Option.some.injEq, Prod.mk.injEq] at H
  obtain ⟨rfl, rfl⟩ := H
  go_enter Try.func20, Try.ntmps20
  go_wp2_with (first | ((with_reducible refine gate_dst (N := 1) rfl ?_); refine box_event ?hg (N := 1) ?hd (cs := #[.int .i64 a0_0, .slice A0_1 l0_1.length c0_1]) (t := 26) ?hr ?_; (case hd => rfl); (case hg => rfl); (case hr => first | (go_simp; done) | (go_simp; rfl)); intro gb442 hg w24 hbox hb; have BK442 := Zm (hbox); have GW442 := Zx hg HB; have GE442 := Zx hg HB; replace HB := Zh HB hb; clear hb hbox hg; have hcz25_0 : w24.cell? ⟨gb442, 0, none⟩ = some (.int .i64 a0_0) := (blk_cell BK442.out 0).trans rfl; have hcz25_1 : w24.cell? ⟨gb442, 1, none⟩ = some (.slice A0_1 l0_1.length c0_1) := (blk_cell BK442.out 1).trans rfl; have hfz25_0 := blk_frozen BK442.out 0; have hfz25_1 := blk_frozen BK442.out 1) | ((with_reducible refine gate_callee (f := 38) rfl ?_); refine Ga (some 7) Try.func38 #[.agg #[.int .i64 a0_0, .slice A0_1 l0_1.length c0_1]] (h := ?_); (with_reducible refine (spec_laGood.calls k a0_0 _ _ l0_1 false _ ?side1 ?side2 A2.out).mono ?_); (case side1 => repeat (first | exact (Kd.C_below HR0_1.out HB.out) | (with_reducible refine Kd.C_alloc ?_ _) | (with_reducible refine Kd.C_drewN ?_ _) | (with_reducible refine Kd.C_drew ?_))); (case side2 => exact HC0_1.out); rintro e w26 ⟨rfl, hb⟩; refine ⟨_, rfl, ?_⟩; replace BK442 := Zk BK442 hb; replace HB := Zh HB hb; (try clear hb); (try clear hb2); (try clear hk); (try clear hi)))
  go_ret2
  exact ⟨by first | rfl | (simp [errW_none, errW_some] <;> rfl) | (simp [*, errW_none, errW_some] <;> rfl), Zl HB⟩

/-! ### impl_FirstBitsUnsorted: function 21 -/
-- GIVEN impl_FirstBitsUnsorted
set_option maxHeartbeats 8000000 in
set_option maxRecDepth 100000 in
theorem impl_FirstBitsUnsorted_1.hit (k : Nat) (W : World) (bl bm : Nat) (a : Int) (A : Option Addr) (l : List Int) (c : Nat) (v : Value) (xs t : List Int) (b : Bool) {base : Nat} {ok : Nat → Prop} (hr : Kd.C (Kd.int .i64) W A l.length l) (hc : l.length ≤ c)
    (hl : W.heap[bl]? = some (.cells #[.int .i64 a, .slice A l.length c] 26 (0, 0))) (hm : W.heap[bm]? = some (.cells #[.slice none 0 0] 24 (0, 0))) (hv : Kd.R (Kd.int .i64) 3 W base ok v xs) (h1 : impl_sorted.f k l xs = some t) (h2 : slices_IsSorted_int_int.f k t = some b) :
    Calls Try.prog 46 #[v, .pointer (some ⟨bm, 0, none⟩), .pointer (some ⟨bl, 0, none⟩)] W fun e w' => e = .returned (.tuple #[]) ∧ ∃ w2, Below W.heap.size W w2 ∧ (if b = true then w' = w2 else w' = w2.setCell ⟨bm, 0, none⟩ v) := by
  have hu := Try.underlying26
  have heq := fun W : World => Lib.run_eql_slice_nil (P := Try.prog) W 24 3 none 0 0 0 0 Try.underlying24
  obtain ⟨A1, c1, rfl, hc1, hr1⟩ := Kd.R_reads hv
  have hz0 : W.cell? ⟨bl, 0, none⟩ = some (.int .i64 a) := (blk_cell hl 0).trans rfl
  have hz1 : W.cell? ⟨bl, 1, none⟩ = some (.slice A l.length c) := (blk_cell hl 1).trans rfl
  have hx0 := cell_of_one hm
  have HM := Aside0.mk hm
  have HR := Aside0.mk hr
  have HC := Aside0.mk hc
  have HR1 := Aside0.mk hr1
  have HC1 := Aside0.mk hc1
  have A5 := Aside0.mk h1
  have A6 := Aside0.mk h2
  clear hv hr1 hc1 hr hc hl hm h1 h2
  cases b with
  | true =>
    go_enter Try.func46, Try.ntmps46
    go_wp2_with (first | (go_at_call 32; refine (impl_sorted.calls k _ _ l _ _ xs t _ HR.out HC.out HR1.out HC1.out A5.out).mono ?_; rintro e w10 ⟨v476, rfl, ho0, hb⟩; obtain ⟨A2, c2, rfl, hc2, hr2⟩ := Kd.R_reads ho0; have HR2 := Aside0.mk hr2; have HC2 := Aside0.mk hc2; have HB := Aside0.mk hb; have HM2 := Aside0.mk (blk_below HM.out hb); clear hr2 hc2 hb ho0; have hy0 := cell_of_one HM2.out; have hf0 := free_of_one HM2.out) | (go_at_call 43; refine (slices_IsSorted_int_int.calls k _ _ t _ _ HR2.out HC2.out A6.out).mono ?_; rintro e w' ⟨rfl, ⟨nd, rfl⟩⟩))
    go_end0
    first | exact ⟨rfl, w10.drewN nd, pw_below_drewN HB.out nd, rfl⟩ | exact ⟨rfl, pw_below_drewN HB.out nd⟩
  | false =>
    go_enter Try.func46, Try.ntmps46
    go_wp2_with (first | (go_at_call 32; refine (impl_sorted.calls k _ _ l _ _ xs t _ HR.out HC.out HR1.out HC1.out A5.out).mono ?_; rintro e w10 ⟨v476, rfl, ho0, hb⟩; obtain ⟨A2, c2, rfl, hc2, hr2⟩ := Kd.R_reads ho0; have HR2 := Aside0.mk hr2; have HC2 := Aside0.mk hc2; have HB := Aside0.mk hb; have HM2 := Aside0.mk (blk_below HM.out hb); clear hr2 hc2 hb ho0; have hy0 := cell_of_one HM2.out; have hf0 := free_of_one HM2.out) | (go_at_call 43; refine (slices_IsSorted_int_int.calls k _ _ t _ _ HR2.out HC2.out A6.out).mono ?_; rintro e w' ⟨rfl, ⟨nd, rfl⟩⟩))
    go_end0
    first | exact ⟨rfl, w10.drewN nd, pw_below_drewN HB.out nd, rfl⟩ | exact ⟨rfl, pw_below_drewN HB.out nd⟩
set_option maxHeartbeats 8000000 in
set_option maxRecDepth 100000 in
theorem impl_FirstBitsUnsorted_1.miss (W : World) (bl bm : Nat) (ad : Addr) (n c : Nat) (v : Value) (hm : W.heap[bm]? = some (.cells #[.slice (some ad) n c] 24 (0, 0))) :
    Calls Try.prog 46 #[v, .pointer (some ⟨bm, 0, none⟩), .pointer (some ⟨bl, 0, none⟩)] W fun e w' => e = .returned (.tuple #[]) ∧ W = w' := by
  have heq := fun W : World => Lib.run_eql_slice_nil (P := Try.prog) W 24 3 (some ad) n c 0 0 Try.underlying24
  have hx0 := cell_of_one hm
  clear hm
  go_enter Try.func46, Try.ntmps46
  go_wp2
  go_end0
  exact ⟨rfl, rfl⟩
/-- A round: the first list that is not sorted behind the rungs is kept. -/
def impl_FirstBitsUnsorted.step (k : Nat) (l : List Int) (o : List Int) (xs : List Int) : Option (List Int) := if xs = [] then none else if o = [] then ((impl_sorted.f k l xs).bind fun t => (slices_IsSorted_int_int.f k t).bind fun b => some (if b = true then [] else xs)) else some o
/-- What the function value's blocks hold. -/
def impl_FirstBitsUnsorted.I (w0 : World) (bl bm : Nat) (a : Int) (A : Option Addr) (l : List Int) (c : Nat) (o : List Int) (S : Nat → Prop) (W : World) : Prop :=
  ∃ v : Value, (∀ k, S k ↔ (k = bl ∨ k = bm ∨ v.ownBlock = some k)) ∧ (∀ k, k < w0.heap.size → W.heap[k]? = w0.heap[k]?) ∧ W.heap[bl]? = some (.cells #[.int .i64 a, .slice A l.length c] 26 (0, 0)) ∧ W.heap[bm]? = some (.cells #[v] 24 (0, 0)) ∧ (o = [] → v = .slice none 0 0) ∧ Kd.R (Kd.int .i64) 3 W w0.heap.size (fun _ => True) v o
theorem impl_FirstBitsUnsorted.clo (w0 : World) (bl bm : Nat) (a : Int) (A : Option Addr) (l : List Int) (c : Nat) (k : Nat) (hr : Kd.C (Kd.int .i64) w0 A l.length l) (hc : l.length ≤ c) (hbl : w0.heap.size ≤ bl) (hbm : w0.heap.size ≤ bm) : CloList 46 #[.pointer (some ⟨bm, 0, none⟩), .pointer (some ⟨bl, 0, none⟩)] w0.heap.size (impl_FirstBitsUnsorted.I w0 bl bm a A l c) (impl_FirstBitsUnsorted.step k l) where
  enters := enters_of Try.func46 (by kernel_rfl) rfl
  lt := fun s S W q hI hq => by
    obtain ⟨v, h1, h2, h3, h4, h5, h6⟩ := hI
    rcases (h1 q).1 hq with rfl | rfl | hq
    · exact blk_lt h3
    · exact blk_lt h4
    · exact ((Kd.R_bound h6).1 q hq).2.2.1
  move := fun s S W W' hI hm hsz => by
    obtain ⟨v, h1, h2, h3, h4, h5, h6⟩ := hI
    have hs : w0.heap.size ≤ W.heap.size := by have := blk_lt h3; omega
    exact ⟨v, h1, fun q hq => (hm q (by omega) (.inl hq)).trans (h2 q hq), (hm bl (blk_lt h3) (.inr ((h1 bl).2 (.inl rfl)))).trans h3, (hm bm (blk_lt h4) (.inr ((h1 bm).2 (.inr (.inl rfl))))).trans h4, h5,
      Kd.R_mono (Kd.R_move (Kd.R_tight rfl h6) (fun q hq => hm q ((Kd.R_bound h6).1 q hq.symm).2.2.1 (.inr ((h1 q).2 (.inr (.inr hq.symm)))))) (fun _ _ => trivial)⟩
  call := fun s s' S W v xs hI hv hst => by
    obtain ⟨u, h1, h2, h3, h4, h5, h6⟩ := hI
    unfold impl_FirstBitsUnsorted.step at hst
    by_cases hx : xs = []
    · rw [if_pos hx] at hst
      cases hst
    rw [if_neg hx] at hst
    have hne : bl ≠ bm := blk_ne h3 h4 (by decide)
    have hs : w0.heap.size ≤ W.heap.size := by have := blk_lt h3; omega
    by_cases ho : s = []
    · rw [if_pos ho] at hst
      obtain ⟨t, e1, hst⟩ := Option.bind_eq_some_iff.mp hst
      obtain ⟨b, e2, hst⟩ := Option.bind_eq_some_iff.mp hst
      obtain rfl := Option.some.inj hst
      obtain rfl := h5 ho
      refine (impl_FirstBitsUnsorted_1.hit k W bl bm a A l c v xs t b ((Kd.heap_int .i64).C h2 hr) hc h3 h4 hv e1 e2).mono ?_
      rintro e w' ⟨rfl, w2, hb, hw⟩
      have hold : ∀ q, q < w0.heap.size → w2.heap[q]? = w0.heap[q]? := fun q hq => (hb.block q (by omega)).trans (h2 q hq)
      cases b with
      | true =>
        rw [if_pos rfl] at hw
        subst hw
        refine ⟨rfl, S, ⟨.slice none 0 0, h1, hold, blk_below h3 hb, blk_below h4 hb, fun _ => rfl, Kd.R_nil _ _ _ _ _⟩, Eff.of_below hb, fun q hq => .inl hq⟩
      | false =>
        rw [if_neg (by decide)] at hw
        subst hw
        refine ⟨rfl, (fun q => q = bl ∨ q = bm ∨ v.ownBlock = some q), ⟨v, fun _ => Iff.rfl, fun q hq => (Below.heap_setCell _ _ _ _ (by show q ≠ bm; omega)).trans (hold q hq), (Below.heap_setCell _ _ _ _ (by show bl ≠ bm; exact hne)).trans (blk_below h3 hb), one_setCell (blk_below h4 hb), fun h => absurd h hx, ?_⟩, eff_setS (Eff.of_below hb) (.inl ((h1 bm).2 (.inr (.inl rfl)))), ?_⟩
        · exact Kd.R_set (Kd.R_mono (Kd.R_below hv hb) (fun _ _ => trivial)) (blk_below h4 hb) (by intro q hq; simp [Kd.int, Kd.scalar] at hq; omega) 0 v
        · intro q hq
          rcases hq with rfl | rfl | hq
          · exact .inl ((h1 _).2 (.inl rfl))
          · exact .inl ((h1 _).2 (.inr (.inl rfl)))
          · exact .inr (.inl hq)
    · rw [if_neg ho] at hst
      obtain rfl := Option.some.inj hst
      have hp : 0 < s.length := List.length_pos_iff.2 ho
      obtain ⟨g, cp, rfl, _⟩ := Kd.R_form h6 hp
      refine (impl_FirstBitsUnsorted_1.miss W bl bm ⟨g, 0, none⟩ s.length cp v h4).mono ?_
      rintro e w' ⟨rfl, rfl⟩
      exact ⟨rfl, S, ⟨_, h1, h2, h3, h4, h5, h6⟩, Eff.refl _ _, fun q hq => .inl hq⟩
def impl_FirstBitsUnsorted.f (k : Nat) (a0_0 : Int) (l0_1 : List Int) : Option (List Int × Bool) := (impl_isLadder.f a0_0 l0_1).bind fun t1 => (if t1 = true then ((bitsFold (impl_FirstBitsUnsorted.step k l0_1) a0_0.toNat (2 ^ a0_0.toNat) 0 ([] : List Int)).bind fun o => some (o, !o.isEmpty)) else (some ([], false)))
set_option maxHeartbeats 8000000 in
set_option maxRecDepth 100000 in
theorem impl_FirstBitsUnsorted.calls (k : Nat) (a0_0 : Int) (A0_1 : Option Addr) (c0_1 : Nat) (l0_1 : List Int) (r1 : List Int) (r2 : Bool) (w : World) (hr0_1 : Kd.C (Kd.int .i64) w A0_1 l0_1.length l0_1) (hc0_1 : l0_1.length ≤ c0_1) (h : impl_FirstBitsUnsorted.f k a0_0 l0_1 = some (r1, r2)) :
    Calls Try.prog 21 #[.agg #[.int .i64 a0_0, .slice A0_1 l0_1.length c0_1]] w fun e w' => ∃ v0_ : Value, e = .returned (.tuple #[v0_, .bool r2]) ∧ Kd.R (Kd.int .i64) 3 w' w.heap.size (fun _ => True) v0_ r1 ∧ Below w.heap.size w w' := by
  have hu := Try.underlying26
  have hmf : ∀ (fn : Fn) (first cap : Array Value) (w : World), (Instr.makeFunc fn first cap).run Try.prog w = .ok (.func fn first cap) w := fun _ _ _ _ => rfl
  have hneq := fun (W : World) (A : Option Addr) (n c : Nat) => run_neq_slice_nil_any (P := Try.prog) W 24 3 A n c 0 0 Try.underlying24
  have HR0_1 := Aside0.mk hr0_1
  have HC0_1 := Aside0.mk hc0_1
  clear hr0_1 hc0_1
  have HB := Aside0.mk (Below.refl w.heap.size w)
  unfold impl_FirstBitsUnsorted.f at h
  replace h := Option.bind_eq_some_iff.mp h
  obtain ⟨t1, e1, h⟩ := h
  have A2 := Aside0.mk e1
  clear e1
  cases t1 with
  | true =>
    rw [if_pos rfl] at h
    replace h := Option.bind_eq_some_iff.mp h
    obtain ⟨m, e2, h⟩ := h
    simp only [Option.some.injEq, Prod.mk.injEq] at h
    obtain ⟨rfl, rfl⟩ := h
    obtain ⟨n, rfl, hn8, hn2⟩ := ladder_nat A2.out
    have A3 := Aside0.mk e2
    clear e2
    have CL := Aside0.mk (fun bl bm h1 h2 => impl_FirstBitsUnsorted.clo w bl bm (n : Int) A0_1 l0_1 c0_1 k HR0_1.out HC0_1.out h1 h2)
    go_enter Try.func21, Try.ntmps21
    go_wp2_with (first | ((with_reducible refine gate_dst (N := 1) rfl ?_); refine box_event ?hg (N := 1) ?hd (cs := #[.int .i64 (n : Int), .slice A0_1 l0_1.length c0_1]) (t := 26) ?hr ?_; (case hd => rfl); (case hg => rfl); (case hr => first | (go_simp; done) | (go_simp; rfl)); intro gb hg w5 hbox hb; have n0_ := Aside0.mk (below_step HB.out hb); have n1_ := Aside0.mk (hbox); have n2_ := Aside0.mk ((by rw [hg]; exact (below_size HB.out)) : w.heap.size ≤ gb); clear HB; have HB := n0_; have BK := n1_; have GE := n2_; clear n0_ n1_ n2_; clear hb hbox hg; have hcz6_0 : w5.cell? ⟨gb, 0, none⟩ = some (.int .i64 (n : Int)) := (blk_cell BK.out 0).trans rfl; have hcz6_1 : w5.cell? ⟨gb, 1, none⟩ = some (.slice A0_1 l0_1.length c0_1) := (blk_cell BK.out 1).trans rfl) | ((with_reducible refine gate_callee (f := 31) rfl ?_); refine Ga (some 6) Try.func31 #[.agg #[.int .i64 (n : Int), .slice A0_1 l0_1.length c0_1]] (h := ?_); (with_reducible refine (impl_isLadder.calls (n : Int) _ _ l0_1 true _ ?side1 ?side2 A2.out).mono ?_); (case side1 => exact (Kd.C_below HR0_1.out HB.out)); (case side2 => exact HC0_1.out); rintro e w7 ⟨rfl, hb⟩; refine ⟨_, rfl, ?_⟩; have n0_ := Aside0.mk (blk_below BK.out hb); have n1_ := Aside0.mk (below_step HB.out hb); clear BK; clear HB; have BK := n0_; have HB := n1_; clear n0_ n1_; clear hb; have hcz8_0 : w7.cell? ⟨gb, 0, none⟩ = some (.int .i64 (n : Int)) := (blk_cell BK.out 0).trans rfl; have hcz8_1 : w7.cell? ⟨gb, 1, none⟩ = some (.slice A0_1 l0_1.length c0_1) := (blk_cell BK.out 1).trans rfl; have hgl8 := blk_lt BK.out) | (go_at_call 41; refine (impl_bits.calls (impl_FirstBitsUnsorted.step k l0_1) (impl_FirstBitsUnsorted.I w gb w7.heap.size (n : Int) A0_1 l0_1 c0_1) 46 _ w.heap.size (CL.out gb w7.heap.size GE.out (below_size HB.out)) n hn8 ([] : List Int) (fun k_ => k_ = gb ∨ k_ = w7.heap.size ∨ (Value.slice none 0 0).ownBlock = some k_) m _ ⟨.slice none 0 0, fun _ => Iff.rfl, fun k_ hk_ => (Below.heap_alloc w7 _ k_ (Nat.lt_of_lt_of_le hk_ HB.out.size)).trans (HB.out.block k_ hk_), blk_alloc BK.out _, blk_new w7 _, fun _ => rfl, Kd.R_nil _ _ _ _ _⟩ (below_size (below_alloc HB.out _)) A3.out).mono ?_; rintro e w9 ⟨rfl, S', hI, he, hs⟩; have HX := Aside0.mk hI; have n0_ := Aside0.mk (eff_below (below_alloc HB.out _) he (fun k_ h_ => h_.elim (fun e_ => e_ ▸ GE.out) (fun h2_ => h2_.elim (fun e_ => e_ ▸ below_size HB.out) (fun e_ => by simp [Value.ownBlock] at e_)))); clear HB; have HB := n0_; clear n0_ hI he hs))
    obtain ⟨v, h1, h2, h3, h4, h5, h6⟩ := HX.out
    have HV := Aside0.mk h6
    have hx0 := cell_of_one h4
    clear HX
    cases m with
    | nil =>
      obtain rfl := h5 rfl
      clear h1 h2 h3 h4 h5 h6
      go_quiet (fail)
      go_wp2
      go_ret2
      exact ⟨_, rfl, by (with_reducible repeat (first | apply Kd.R_alloc | apply Kd.R_drewN | apply Kd.R_drew)); exact HV.out, by repeat (first | exact HB.out | apply pw_below_drewN | apply below_drew1)⟩
    | cons y ys =>
      obtain ⟨g, cp, rfl, _⟩ := Kd.R_form h6 (by simp)
      clear h1 h2 h3 h4 h5 h6
      go_quiet (fail)
      go_wp2
      go_ret2
      exact ⟨_, rfl, by (with_reducible repeat (first | apply Kd.R_alloc | apply Kd.R_drewN | apply Kd.R_drew)); exact HV.out, by repeat (first | exact HB.out | apply pw_below_drewN | apply below_drew1)⟩
  | false =>
    rw [if_neg (by decide)] at h
    simp only [Option.some.injEq, Prod.mk.injEq] at h
    obtain ⟨rfl, rfl⟩ := h
    go_enter Try.func21, Try.ntmps21
    go_wp2_with (first | ((with_reducible refine gate_dst (N := 1) rfl ?_); refine box_event ?hg (N := 1) ?hd (cs := #[.int .i64 a0_0, .slice A0_1 l0_1.length c0_1]) (t := 26) ?hr ?_; (case hd => rfl); (case hg => rfl); (case hr => first | (go_simp; done) | (go_simp; rfl)); intro gb hg w5 hbox hb; have n0_ := Aside0.mk (below_step HB.out hb); have n1_ := Aside0.mk (hbox); have n2_ := Aside0.mk ((by rw [hg]; exact (below_size HB.out)) : w.heap.size ≤ gb); clear HB; have HB := n0_; have BK := n1_; have GE := n2_; clear n0_ n1_ n2_; clear hb hbox hg; have hcz6_0 : w5.cell? ⟨gb, 0, none⟩ = some (.int .i64 a0_0) := (blk_cell BK.out 0).trans rfl; have hcz6_1 : w5.cell? ⟨gb, 1, none⟩ = some (.slice A0_1 l0_1.length c0_1) := (blk_cell BK.out 1).trans rfl) | ((with_reducible refine gate_callee (f := 31) rfl ?_); refine Ga (some 6) Try.func31 #[.agg #[.int .i64 a0_0, .slice A0_1 l0_1.length c0_1]] (h := ?_); (with_reducible refine (impl_isLadder.calls a0_0 _ _ l0_1 false _ ?side1 ?side2 A2.out).mono ?_); (case side1 => exact (Kd.C_below HR0_1.out HB.out)); (case side2 => exact HC0_1.out); rintro e w7 ⟨rfl, hb⟩; refine ⟨_, rfl, ?_⟩; have n0_ := Aside0.mk (blk_below BK.out hb); have n1_ := Aside0.mk (below_step HB.out hb); clear BK; clear HB; have BK := n0_; have HB := n1_; clear n0_ n1_; clear hb; have hcz8_0 : w7.cell? ⟨gb, 0, none⟩ = some (.int .i64 a0_0) := (blk_cell BK.out 0).trans rfl; have hcz8_1 : w7.cell? ⟨gb, 1, none⟩ = some (.slice A0_1 l0_1.length c0_1) := (blk_cell BK.out 1).trans rfl; have hgl8 := blk_lt BK.out))
    go_ret2
    exact ⟨_, rfl, Kd.R_nil _ _ _ _ _, HB.out⟩

/-! ### spec_FirstBitsUnsorted: function 22 -/
def spec_FirstBitsUnsorted.l0 : Nat → Int → Int → List Int → Option (List Int × Bool)
 | 0, _, _, _ => none
 | k + 1, x4, x449000, x449001 => if 0 ≤ x449000 then (if x4 < (shl .i64 1 x449000) then ((spec_soBits.f k x449000 x4).bind fun t450 => ((spec_soSorted.f k x449001 t450).bind fun t453 => (if t453 = true then (spec_FirstBitsUnsorted.l0 k (wrap64 (x4 + 1)) x449000 x449001) else (some (t450, true))))) else (some (([] : List Int), false))) else (none)
def spec_FirstBitsUnsorted.f (k : Nat) (a0_0 : Int) (l0_1 : List Int) : Option (List Int × Bool) := (spec_laGood.f k a0_0 l0_1).bind fun t449 => (if t449 = true then (spec_FirstBitsUnsorted.l0 k 0 a0_0 l0_1) else (some (([] : List Int), false)))
set_option maxHeartbeats 8000000 in
set_option maxRecDepth 100000 in
theorem spec_FirstBitsUnsorted.calls (k : Nat) (a0_0 : Int) (A0_1 : Option Addr) (c0_1 : Nat) (l0_1 : List Int) (r1 : List Int) (r2 : Bool) (w : World) (hr0_1 : Kd.C (Kd.int .i64) w A0_1 l0_1.length l0_1) (hc0_1 : l0_1.length ≤ c0_1) (h : spec_FirstBitsUnsorted.f k a0_0 l0_1 = some (r1, r2)) :
  Calls Try.prog 22 #[.agg #[.int .i64 a0_0, .slice A0_1 l0_1.length c0_1]] w fun e w' => ∃ v0_ : Value, e = .returned (.tuple #[v0_, .bool r2]) ∧ Kd.R (Kd.int .i64) 3 w' w.heap.size (fun _ => True) v0_ r1 ∧ Below w.heap.size w w' := by
 have hu26 := Try.underlying26; have HR0_1 := Aside0.mk hr0_1; have HC0_1 := Aside0.mk hc0_1; clear hr0_1 hc0_1; have HB := Zm (Below.refl w.heap.size w); have H : ((spec_laGood.f k a0_0 l0_1).bind fun t449 => (if t449 = true then (spec_FirstBitsUnsorted.l0 k 0 a0_0 l0_1) else (some (([] : List Int), false)))) = some (r1, r2) := h; clear h
 replace H := Option.bind_eq_some_iff.mp H; obtain ⟨t449, A20, H⟩ := H; replace H : (if t449 = true then (spec_FirstBitsUnsorted.l0 k 0 a0_0 l0_1) else (some (([] : List Int), false))) = some (r1, r2) := H; have A2 := Aside0.mk A20; clear A20
 by_cases c3 : t449 = true
 ·
  subst c3
  rw [if_pos rfl] at H
  have H' := Aside0.mk H; clear H
  go_enter Try.func22, Try.ntmps22
  go_wp2_with (first | ((with_reducible refine gate_dst (N := 1) rfl ?_); refine box_event ?hg (N := 1) ?hd (cs := #[.int .i64 a0_0, .slice A0_1 l0_1.length c0_1]) (t := 26) ?hr ?_; (case hd => rfl); (case hg => rfl); (case hr => first | (go_simp; done) | (go_simp; rfl)); intro gb448 hg w4 hbox hb; have BK448 := Zm (hbox); have GW448 := Zx hg HB; have GE448 := Zx hg HB; replace HB := Zh HB hb; clear hb hbox hg; have hcz5_0 : w4.cell? ⟨gb448, 0, none⟩ = some (.int .i64 a0_0) := (blk_cell BK448.out 0).trans rfl; have hcz5_1 : w4.cell? ⟨gb448, 1, none⟩ = some (.slice A0_1 l0_1.length c0_1) := (blk_cell BK448.out 1).trans rfl; have hfz5_0 := blk_frozen BK448.out 0; have hfz5_1 := blk_frozen BK448.out 1) | ((with_reducible refine gate_callee (f := 38) rfl ?_); refine Ga (some 7) Try.func38 #[.agg #[.int .i64 a0_0, .slice A0_1 l0_1.length c0_1]] (h := ?_); (with_reducible refine (spec_laGood.calls k a0_0 _ _ l0_1 true _ ?side1 ?side2 A2.out).mono ?_); (case side1 => repeat (first | exact (Kd.C_below HR0_1.out HB.out) | (with_reducible refine Kd.C_alloc ?_ _) | (with_reducible refine Kd.C_drewN ?_ _) | (with_reducible refine Kd.C_drew ?_))); (case side2 => exact HC0_1.out); rintro e w6 ⟨rfl, hb⟩; refine ⟨_, rfl, ?_⟩; replace BK448 := Zk BK448 hb; replace HB := Zh HB hb; (try clear hb); (try clear hb2); (try clear hk); (try clear hi)))
  go_loopg [4] k (fun kq v4 w' => ∃ (x4_1 : Int), v4 = .int .i64 x4_1 ∧ Aside0 (spec_FirstBitsUnsorted.l0 kq x4_1 a0_0 l0_1 = some (r1, r2)) ∧ Aside0 (kq ≤ k) ∧ Aside0 (w'.heap[gb448]? = some (.cells #[.int .i64 a0_0, (.slice A0_1 l0_1.length c0_1)] 26 (0, 0))) ∧ Aside0 (Below w.heap.size w w'))
  case atStart => exact ⟨(0), (by first | rfl | (simp; done) | (simp [*]; done)), H', ⟨Nat.le_refl _⟩, ⟨Zb BK448⟩, ⟨Zl HB⟩⟩
  case round =>
   (clear H'; (try clear c2); (try clear p2); (try clear c3); (try clear hcz5_0); (try clear hcz5_1); (try clear hfz5_0); (try clear hfz5_1)); obtain ⟨x4_1, rfl, HA, HK1, BK448, HB⟩ := hrel
   cases gk with
   | zero => exact absurd HA.out (by simp [spec_FirstBitsUnsorted.l0])
   | succ k1 =>
    have H := HA.out; clear HA
    simp only [spec_FirstBitsUnsorted.l0] at H
    by_cases c7 : 0 ≤ a0_0
    ·
     rw [if_pos c7] at H; have c7b0 := eq_true c7; have c7b1 : decide (0 ≤ a0_0) = true := decide_eq_true c7; clear c7; obtain ⟨ji8, hji8⟩ : ∃ j_ : Int, (shl .i64 1 a0_0) = j_ := ⟨_, rfl⟩; (replace H : (if x4_1 < (ji8) then ((spec_soBits.f k1 a0_0 x4_1).bind fun t450 => ((spec_soSorted.f k1 l0_1 t450).bind fun t453 => (if t453 = true then (spec_FirstBitsUnsorted.l0 k1 (wrap64 (x4_1 + 1)) a0_0 l0_1) else (some (t450, true))))) else (some (([] : List Int), false))) = some (r1, r2) := by first | (rw [hji8] at H; exact H) | (simp only [hji8] at H ⊢; exact H))
     have hji8_ : (IntKind.i64.wrap (1 * 2 ^ min a0_0.toNat 64)) = ji8 := hji8; have hji8z : a0_0 ≤ 64 → (IntKind.i64.wrap (1 * 2 ^ a0_0.toNat)) = ji8 := shl_small hji8
     have hji8u : (IntKind.i64.wrap (2 ^ min a0_0.toNat 64)) = ji8 := by have h_ := hji8_; rw [Int.one_mul] at h_; exact h_
     have hji8v : a0_0 ≤ 64 → (IntKind.i64.wrap (2 ^ a0_0.toNat)) = ji8 := fun hle_ => by have h_ := hji8z hle_; rw [Int.one_mul] at h_; exact h_
     have hji8y : (wrap64 (1 * 2 ^ min a0_0.toNat 64)) = ji8 := (i64_w _).symm.trans hji8_
     have hji8x : a0_0 ≤ 64 → (wrap64 (1 * 2 ^ a0_0.toNat)) = ji8 := fun h_ => (i64_w _).symm.trans (hji8z h_)
     by_cases c9 : x4_1 < (ji8)
     ·
      rw [if_pos c9] at H; have c9b0 : decide (x4_1 < (ji8)) = true := decide_eq_true c9; clear c9; replace H := Option.bind_eq_some_iff.mp H; obtain ⟨t450, A100, H⟩ := H; (replace H : ((spec_soSorted.f k1 l0_1 t450).bind fun t453 => (if t453 = true then (spec_FirstBitsUnsorted.l0 k1 (wrap64 (x4_1 + 1)) a0_0 l0_1) else (some (t450, true)))) = some (r1, r2) := H); have A10 := Aside0.mk A100; clear A100; replace H := Option.bind_eq_some_iff.mp H; obtain ⟨t453, A110, H⟩ := H; replace H : (if t453 = true then (spec_FirstBitsUnsorted.l0 k1 (wrap64 (x4_1 + 1)) a0_0 l0_1) else (some (t450, true))) = some (r1, r2) := H; have A11 := Aside0.mk A110; clear A110
      by_cases c12 : t453 = true
      ·
       subst c12
       rw [if_pos rfl] at H
       have H' := Aside0.mk H; clear H; have hcz13_0 : wr.cell? ⟨gb448, 0, none⟩ = some (.int .i64 a0_0) := (blk_cell BK448.out 0).trans rfl; have hcz13_1 : wr.cell? ⟨gb448, 1, none⟩ = some (.slice A0_1 l0_1.length c0_1) := (blk_cell BK448.out 1).trans rfl; have hfz13_0 := blk_frozen BK448.out 0; have hfz13_1 := blk_frozen BK448.out 1
       go_wp2_with (first | ((with_reducible refine gate_callee (f := 45) rfl ?_); refine Ga (some 19) Try.func45 #[.int .i64 a0_0, .int .i64 x4_1] (h := ?_); (with_reducible refine (spec_soBits.calls k1 a0_0 x4_1 t450 _ A10.out).mono ?_); rintro e w14 ⟨v451, rfl, ho0, hb⟩; refine ⟨_, rfl, ?_⟩; have HO452 := Zj ho0 HB; replace BK448 := Zk BK448 hb; replace HB := Zh HB hb; (try clear hb); (try clear ho0); have hcz15_0 : w14.cell? ⟨gb448, 0, none⟩ = some (.int .i64 a0_0) := (blk_cell BK448.out 0).trans rfl; have hcz15_1 : w14.cell? ⟨gb448, 1, none⟩ = some (.slice A0_1 l0_1.length c0_1) := (blk_cell BK448.out 1).trans rfl; have hfz15_0 := blk_frozen BK448.out 0; have hfz15_1 := blk_frozen BK448.out 1; obtain ⟨Ao16, co16, eo16⟩ := Kd.R_slice HO452.out; subst eo16) | ((with_reducible refine gate_callee (f := 44) rfl ?_); refine Ga (some 23) Try.func44 #[.slice A0_1 l0_1.length c0_1, .slice Ao16 t450.length co16] (h := ?_); (with_reducible refine (spec_soSorted.calls k1 _ _ l0_1 _ _ t450 true _ ?side1 ?side2 ?side3 ?side4 A11.out).mono ?_); (case side1 => repeat (first | exact (Kd.C_below HR0_1.out HB.out) | (with_reducible refine Kd.C_alloc ?_ _) | (with_reducible refine Kd.C_drewN ?_ _) | (with_reducible refine Kd.C_drew ?_))); (case side2 => exact HC0_1.out); (case side3 => repeat (first | exact (Kd.R_reads' HO452.out).2.2 | (with_reducible refine Kd.C_alloc ?_ _) | (with_reducible refine Kd.C_drewN ?_ _) | (with_reducible refine Kd.C_drew ?_))); (case side4 => exact (Kd.R_reads' HO452.out).2.1); rintro e w17 ⟨rfl, hb⟩; refine ⟨_, rfl, ?_⟩; replace HO452 := Zo HO452 hb; replace BK448 := Zk BK448 hb; replace HB := Zh HB hb; (try clear hb); (try clear hb2); (try clear hk); (try clear hi)))
       go_roundg k1
       case measure => have := HK1.out; omega
       case rel => exact ⟨(wrap64 (x4_1 + 1)), (by first | rfl | (simp; done) | (simp [*]; done)), H', ⟨by have := HK1.out; omega⟩, ⟨Zb BK448⟩, ⟨Zl HB⟩⟩
      ·
       replace c12 := Bool.eq_false_iff.mpr c12
       subst c12
       rw [if_neg Bool.false_ne_true] at H
       simp only [Option.some.injEq, Prod.mk.injEq] at H
       obtain ⟨rfl, rfl⟩ := H
       have hcz18_0 : wr.cell? ⟨gb448, 0, none⟩ = some (.int .i64 a0_0) := (blk_cell BK448.out 0).trans rfl; have hcz18_1 : wr.cell? ⟨gb448, 1, none⟩ = some (.slice A0_1 l0_1.length c0_1) := (blk_cell BK448.out 1).trans rfl; have hfz18_0 := blk_frozen BK448.out 0; have hfz18_1 := blk_frozen BK448.out 1
       go_wp2_with (first | ((with_reducible refine gate_callee (f := 45) rfl ?_); refine Ga (some 19) Try.func45 #[.int .i64 a0_0, .int .i64 x4_1] (h := ?_); (with_reducible refine (spec_soBits.calls k1 a0_0 x4_1 t450 _ A10.out).mono ?_); rintro e w19 ⟨v451, rfl, ho0, hb⟩; refine ⟨_, rfl, ?_⟩; have HO452 := Zj ho0 HB; replace BK448 := Zk BK448 hb; replace HB := Zh HB hb; (try clear hb); (try clear ho0); have hcz20_0 : w19.cell? ⟨gb448, 0, none⟩ = some (.int .i64 a0_0) := (blk_cell BK448.out 0).trans rfl; have hcz20_1 : w19.cell? ⟨gb448, 1, none⟩ = some (.slice A0_1 l0_1.length c0_1) := (blk_cell BK448.out 1).trans rfl; have hfz20_0 := blk_frozen BK448.out 0; have hfz20_1 := blk_frozen BK448.out 1; obtain ⟨Ao21, co21, eo21⟩ := Kd.R_slice HO452.out; subst eo21) | ((with_reducible refine gate_callee (f := 44) rfl ?_); refine Ga (some 23) Try.func44 #[.slice A0_1 l0_1.length c0_1, .slice Ao21 t450.length co21] (h := ?_); (with_reducible refine (spec_soSorted.calls k1 _ _ l0_1 _ _ t450 false _ ?side1 ?side2 ?side3 ?side4 A11.out).mono ?_); (case side1 => repeat (first | exact (Kd.C_below HR0_1.out HB.out) | (with_reducible refine Kd.C_alloc ?_ _) | (with_reducible refine Kd.C_drewN ?_ _) | (with_reducible refine Kd.C_drew ?_))); (case side2 => exact HC0_1.out); (case side3 => repeat (first | exact (Kd.R_reads' HO452.out).2.2 | (with_reducible refine Kd.C_alloc ?_ _) | (with_reducible refine Kd.C_drewN ?_ _) | (with_reducible refine Kd.C_drew ?_))); (case side4 => exact (Kd.R_reads' HO452.out).2.1); rintro e w22 ⟨rfl, hb⟩; refine ⟨_, rfl, ?_⟩; replace HO452 := Zo HO452 hb; replace BK448 := Zk BK448 hb; replace HB := Zh HB hb; (try clear hb); (try clear hb2); (try clear hk); (try clear hi)))
       go_ret2
       exact ⟨_, by first | rfl | (simp [errW_none, errW_some] <;> rfl) | (simp only [← hji8]; first | rfl | (simp [errW_none, errW_some] <;> rfl)) | (simp [*, errW_none, errW_some] <;> rfl), Zr HO452, Zl HB⟩
     ·
      rw [if_neg c9] at H; have c9b0 : decide (x4_1 < (ji8)) = false := decide_eq_false c9; clear c9
      simp only [Option.some.injEq, Prod.mk.injEq] at H
      obtain ⟨rfl, rfl⟩ := H
      have hcz23_0 : wr.cell? ⟨gb448, 0, none⟩ = some (.int .i64 a0_0) := (blk_cell BK448.out 0).trans rfl; have hcz23_1 : wr.cell? ⟨gb448, 1, none⟩ = some (.slice A0_1 l0_1.length c0_1) := (blk_cell BK448.out 1).trans rfl; have hfz23_0 := blk_frozen BK448.out 0; have hfz23_1 := blk_frozen BK448.out 1
      go_wp2
      go_ret2
      exact ⟨_, by first | rfl | (simp [errW_none, errW_some] <;> rfl) | (simp only [← hji8]; first | rfl | (simp [errW_none, errW_some] <;> rfl)) | (simp [*, errW_none, errW_some] <;> rfl), by first | exact Kd.R_nil _ _ _ _ _ | exact Kd.N_nil _ _ _ _ _ | exact Kd.V_nil _ _ _ _ _ | exact Kd.Q_nil _ _ _ _ _ | exact Kd.S_nil _ _ _ _ _, Zl HB⟩
    ·
     rw [if_neg c7] at H
     exact absurd H (by simp)
 ·
  replace c3 := Bool.eq_false_iff.mpr c3
  subst c3
  rw [if_neg Bool.false_ne_true] at H
  simp only [Option.some.injEq, Prod.mk.injEq] at H
  obtain ⟨rfl, rfl⟩ := H
  go_enter Try.func22, Try.ntmps22
  go_wp2_with (first | ((with_reducible refine gate_dst (N := 1) rfl ?_); refine box_event ?hg (N := 1) ?hd (cs := #[.int .i64 a0_0, .slice A0_1 l0_1.length c0_1]) (t := 26) ?hr ?_; (case hd => rfl); (case hg => rfl); (case hr => first | (go_simp; done) | (go_simp; rfl)); intro gb448 hg w24 hbox hb; have BK448 := Zm (hbox); have GW448 := Zx hg HB; have GE448 := Zx hg HB; replace HB := Zh HB hb; clear hb hbox hg; have hcz25_0 : w24.cell? ⟨gb448, 0, none⟩ = some (.int .i64 a0_0) := (blk_cell BK448.out 0).trans rfl; have hcz25_1 : w24.cell? ⟨gb448, 1, none⟩ = some (.slice A0_1 l0_1.length c0_1) := (blk_cell BK448.out 1).trans rfl; have hfz25_0 := blk_frozen BK448.out 0; have hfz25_1 := blk_frozen BK448.out 1) | ((with_reducible refine gate_callee (f := 38) rfl ?_); refine Ga (some 7) Try.func38 #[.agg #[.int .i64 a0_0, .slice A0_1 l0_1.length c0_1]] (h := ?_); (with_reducible refine (spec_laGood.calls k a0_0 _ _ l0_1 false _ ?side1 ?side2 A2.out).mono ?_); (case side1 => repeat (first | exact (Kd.C_below HR0_1.out HB.out) | (with_reducible refine Kd.C_alloc ?_ _) | (with_reducible refine Kd.C_drewN ?_ _) | (with_reducible refine Kd.C_drew ?_))); (case side2 => exact HC0_1.out); rintro e w26 ⟨rfl, hb⟩; refine ⟨_, rfl, ?_⟩; replace BK448 := Zk BK448 hb; replace HB := Zh HB hb; (try clear hb); (try clear hb2); (try clear hk); (try clear hi)))
  go_ret2
  exact ⟨_, by first | rfl | (simp [errW_none, errW_some] <;> rfl) | (simp [*, errW_none, errW_some] <;> rfl), by first | exact Kd.R_nil _ _ _ _ _ | exact Kd.N_nil _ _ _ _ _ | exact Kd.V_nil _ _ _ _ _ | exact Kd.Q_nil _ _ _ _ _ | exact Kd.S_nil _ _ _ _ _, Zl HB⟩

end Go.Proofs.Ytnagcjhgojchlac.Q
