/- Each function below comes to the Lean function beside it (theorems '.calls'); no condition beyond each theorem's own. Written by our program oprint.py over the kit's print. -/
import Derived.Test.YtgjamcfnpofbhaaQx0
import Derived.Test.YtgjamcfnpofbhaaQx24
import Derived.Test.YtgjamcfnpofbhaaQx37
namespace Go.Proofs.Ytgjamcfnpofbhaa.Q
open Go.RowKit Go.Proofs.YtgjamcfnpofbhaaW.PrintWords Go.Proofs.YtgjamcfnpofbhaaW.PrintLast Go.Proofs.YtgjamcfnpofbhaaW.PrintMore
attribute [local go_sem] max2_int min2_int max_two min_two max_three min_three max_four min_four   -- for this text's walks alone
set_option linter.unusedVariables false
set_option linter.unusedSimpArgs false

/-! ### impl_poleDescents: function 58 -/
-- GIVEN impl_poleDescents
def impl_poleDescents.g (l0 l1 : List Int) : Nat → Int → List Int → Option (List Int)
  | 0, _, acc => some acc
  | d + 1, i, acc => (impl_Turned_place.f l0 l1 i).bind fun a => (impl_Turned_place.f l0 l1 (i + 1)).bind fun b => impl_poleDescents.g l0 l1 d (i + 1) (if b < a then acc ++ [i] else acc)
def impl_poleDescents.f (l0_0 : List Int) (l0_1 : List Int) : Option (List Int) := if l0_0.length ≤ 1099511627776 then impl_poleDescents.g l0_0 l0_1 l0_0.length 0 [] else none
theorem impl_poleDescents.info : (Try.prog.info? 3).map (fun i => (i.zero, i.size, i.bytes)) = some (some (.int .i64 0), 1, 8) := by kernel_rfl
theorem impl_poleDescents.own (W : World) (base : Nat) (hb : base ≤ W.heap.size) : Kd.R (Kd.int .i64) 3 (W.alloc (.cells #[] 3)) base (fun _ => True) (.slice (some ⟨W.heap.size, 0, none⟩) 0 0) [] :=
  ⟨fun _ _ => trivial, [], by show World.ownsRow _ _ _ 1 _ _ _; simpa using World.ownsRow_lit (base := base) (e := 3) (size := 1) W #[] 0 hb (by simp) (by simp), Reps.none _ _⟩
set_option maxHeartbeats 8000000 in
set_option maxRecDepth 100000 in
theorem impl_poleDescents.calls (A0_0 : Option Addr) (c0_0 : Nat) (l0_0 : List Int) (A0_1 : Option Addr) (c0_1 : Nat) (l0_1 : List Int) (r : List Int) (w : World) (hr0_0 : Kd.C (Kd.int .i64) w A0_0 l0_0.length l0_0) (hc0_0 : l0_0.length ≤ c0_0) (hr0_1 : Kd.C (Kd.int .i64) w A0_1 l0_1.length l0_1) (hc0_1 : l0_1.length ≤ c0_1) (h : impl_poleDescents.f l0_0 l0_1 = some r) :
    Calls Try.prog 58 #[.agg #[.slice A0_0 l0_0.length c0_0, .slice A0_1 l0_1.length c0_1]] w fun e w' => ∃ v0_ : Value, e = .returned (v0_) ∧ Kd.R (Kd.int .i64) 3 w' w.heap.size (fun _ => True) v0_ r ∧ Below w.heap.size w w' := by
  have hu := Try.underlying36
  unfold impl_poleDescents.f at h
  split at h
  case isFalse => cases h
  rename_i hn
  have HX := Aside0.mk (boxedTurned w (w.alloc (.cells #[.slice A0_0 l0_0.length c0_0, .slice A0_1 l0_1.length c0_1] 36)) A0_0 A0_1 c0_0 c0_1 l0_0 l0_1 hr0_0 hr0_1 (Below.refl _ _))
  have HY := Aside0.mk (below_alloc (Below.refl w.heap.size w) (.cells #[.slice A0_0 l0_0.length c0_0, .slice A0_1 l0_1.length c0_1] 36))
  clear hr0_0 hc0_0 hr0_1 hc0_1
  have H0 := Aside0.mk h
  clear h
  go_enter Try.func58, Try.ntmps58
  go_wp2_with fail
  have HZ := impl_poleDescents.own (w.alloc (.cells #[.slice A0_0 l0_0.length c0_0, .slice A0_1 l0_1.length c0_1] 36)) w.heap.size (below_size HY.out)
  rw [show (w.alloc (.cells #[.slice A0_0 l0_0.length c0_0, .slice A0_1 l0_1.length c0_1] 36)).heap.size = w.heap.size + 1 from by simp] at HZ
  have HO := Aside0.mk HZ
  clear HZ
  have HB := Aside0.mk (below_alloc HY.out (.cells #[] 3))
  have HI := Aside0.mk (IsS36.alloc HX.out (.cells #[] 3))
  clear HX HY
  go_loopg [3, 9] l0_0.length (fun gg v3 v9 wr => ∃ (i : Nat) (acc : List Int), i ≤ l0_0.length ∧ acc.length ≤ i ∧ l0_0.length - i ≤ gg ∧ v9 = .int .i64 (i : Int) ∧ Aside0 (impl_poleDescents.g l0_0 l0_1 (l0_0.length - i) (i : Int) acc = some r) ∧ Aside0 (Kd.R (Kd.int .i64) 3 wr w.heap.size (fun _ => True) v3 acc) ∧ Aside0 (IsS36 w wr w.heap.size l0_0 l0_1) ∧ Aside0 (Below w.heap.size w wr))
  case atStart => exact ⟨0, [], Nat.zero_le _, by simp, by omega, rfl, ⟨H0.out⟩, HO, HI, HB⟩
  case round =>
    obtain ⟨i, acc, hi, hacc, hg, rfl, HA, HO2, HI2, HB2⟩ := hrel
    clear H0 HO HI HB
    by_cases hlt : i < l0_0.length
    · have hltz : (i : Int) < (l0_0.length : Int) := by omega
      have h3 := HA.out
      clear HA
      rw [show l0_0.length - i = (l0_0.length - (i + 1)) + 1 from by omega] at h3
      simp only [impl_poleDescents.g] at h3
      replace h3 := Option.bind_eq_some_iff.mp h3
      obtain ⟨a, e3, h3⟩ := h3
      replace h3 := Option.bind_eq_some_iff.mp h3
      obtain ⟨b, e4, h3⟩ := h3
      have HE3 := Aside0.mk e3
      have HE4 := Aside0.mk e4
      have HE5 := Aside0.mk h3
      clear e3 e4 h3
      go_wp2_with fail
      refine (impl_Turned_place.calls w.heap.size l0_0 l0_1 (i : Int) a w _ HI2.out HB2.out HE3.out).mono ?_
      rintro e w1 ⟨rfl, hi1, hb1, hk1⟩
      have HI3 := Aside0.mk hi1
      have HB3 := Aside0.mk hb1
      have HO3 := Aside0.mk (Kd.R_mono (ok' := fun _ => True) (Kd.R_keep (IsS36.apart HI2.out HO2.out (by decide)) hk1 (fun _ hk => hk.2)) (fun _ _ => trivial))
      clear hi1 hb1 hk1 HI2 HB2 HO2
      go_wp2_with fail
      refine (impl_Turned_place.calls w.heap.size l0_0 l0_1 ((i : Int) + 1) b w _ HI3.out HB3.out HE4.out).mono ?_
      rintro e w2 ⟨rfl, hi1, hb1, hk1⟩
      have HI4 := Aside0.mk hi1
      have HB4 := Aside0.mk hb1
      have HO4 := Aside0.mk (Kd.R_mono (ok' := fun _ => True) (Kd.R_keep (IsS36.apart HI3.out HO3.out (by decide)) hk1 (fun _ hk => hk.2)) (fun _ _ => trivial))
      clear hi1 hb1 hk1 HI3 HB3 HO3
      by_cases hab : b < a
      · have hab1 : decide (b < a) = true := decide_eq_true hab
        have HE6 := Aside0.mk (show impl_poleDescents.g l0_0 l0_1 (l0_0.length - (i + 1)) ((i : Int) + 1) (acc ++ [(i : Int)]) = some r by have := HE5.out; rw [if_pos hab] at this; exact this)
        clear hab HE5
        go_wp2_with (first | ((with_reducible refine gate_builtin (b := .append) (xs := #[.tmp 18, .tmp 20]) rfl ?_); at_builtin; refine Kd.R_append (Kd.int .i64) (w0 := w) w.heap.size rfl (.tmp 18) (.tmp 20) 22 3 (.int .i64 0) 8 rfl Try.underlying22 impl_poleDescents.info rfl (by decide) (by omega) u3 acc (i : Int) [.int .i64 (i : Int)] (fun _ => True) (fun _ => False) rfl rfl ?aP (fun _ hk => hk.elim) ?aF ?aO ?aB ?aS ?aL ?_; (case aP => exact rfl); (case aB => exact (by repeat (first | exact HB4.out | apply below_alloc | apply pw_below_drewN | apply below_drew1))); (case aF => exact (fun _ _ => trivial)); (case aO => exact (by (with_reducible repeat (first | apply Kd.R_alloc | apply Kd.R_drewN | apply Kd.R_drew)); exact HO4.out)); (case aS => exact (below_size (by repeat (first | exact HB4.out | apply below_alloc | apply pw_below_drewN | apply below_drew1)))); (case aL => omega); intro v869 w12 ho hb hg hat; have HO5 := Aside0.mk ho; have HB5 := Aside0.mk hb; have HI5 := Aside0.mk (IsS36.grown (by (with_reducible repeat (first | apply IsS36.drewN | apply IsS36.drew | apply IsS36.alloc)); exact HI4.out) hg (IsS36.own_ne HI4.out HO4.out (by decide))); clear ho hb hg hat HO4 HB4 HI4))
        go_roundg (l0_0.length - (i + 1))
        case measure => omega
        case rel => exact ⟨i + 1, acc ++ [(i : Int)], by omega, by simp; omega, by omega, by go_num, ⟨by have := HE6.out; exact_mod_cast this⟩, HO5, HI5, HB5⟩
      · have hab1 : decide (b < a) = false := decide_eq_false hab
        have HE6 := Aside0.mk (show impl_poleDescents.g l0_0 l0_1 (l0_0.length - (i + 1)) ((i : Int) + 1) acc = some r by have := HE5.out; rw [if_neg hab] at this; exact this)
        clear hab HE5
        go_wp2
        go_roundg (l0_0.length - (i + 1))
        case measure => omega
        case rel => exact ⟨i + 1, acc, by omega, by omega, by omega, by go_num, ⟨by have := HE6.out; exact_mod_cast this⟩, HO4, HI4, HB4⟩
    · have hltz : ¬ (i : Int) < (l0_0.length : Int) := by omega
      have h1 := HA.out
      clear HA
      rw [show l0_0.length - i = 0 from by omega] at h1
      obtain rfl := Option.some.inj h1
      clear h1
      go_wp2
      go_ret
      exact ⟨_, rfl, HO2.out, HB2.out⟩

end Go.Proofs.Ytgjamcfnpofbhaa.Q
