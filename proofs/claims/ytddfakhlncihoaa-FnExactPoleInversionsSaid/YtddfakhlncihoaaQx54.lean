/- Each function below comes to the Lean function beside it (theorems '.calls'); no condition beyond each theorem's own. Written by our program oprint.py over the kit's print. -/
import Derived.Test.YtddfakhlncihoaaQx0
import Derived.Test.YtddfakhlncihoaaQx23
import Derived.Test.YtddfakhlncihoaaQx52
namespace Go.Proofs.Ytddfakhlncihoaa.Q
open Go.RowKit Go.Proofs.YtddfakhlncihoaaW.PrintWords Go.Proofs.YtddfakhlncihoaaW.PrintLast Go.Proofs.YtddfakhlncihoaaW.PrintMore
attribute [local go_sem] max2_int min2_int max_two min_two max_three min_three max_four min_four   -- for this text's walks alone
set_option linter.unusedVariables false
set_option linter.unusedSimpArgs false

/-! ### impl_poleInversions: function 99 -/
-- GIVEN impl_poleInversions
def impl_poleInversions.g1 (l0 l1 : List Int) (i : Int) : Nat → Int → Int → Option Int
  | 0, _, m => some m
  | d + 1, j, m => (impl_Turned_place.f l0 l1 i).bind fun a => (impl_Turned_place.f l0 l1 j).bind fun b => impl_poleInversions.g1 l0 l1 i d (j + 1) (if b < a then wrap64 (m + 1) else m)
def impl_poleInversions.g0 (l0 l1 : List Int) : Nat → Int → Int → Option Int
  | 0, _, m => some m
  | d + 1, i, m => (impl_poleInversions.g1 l0 l1 i (l0.length * 244) (i + 1) m).bind fun m2 => impl_poleInversions.g0 l0 l1 d (i + 1) m2
def impl_poleInversions.f (l0_0 : List Int) (l0_1 : List Int) : Option (Int) := if l0_0.length ≤ 1099511627776 then impl_poleInversions.g0 l0_0 l0_1 l0_0.length 0 0 else none
set_option maxHeartbeats 8000000 in
set_option maxRecDepth 100000 in
theorem impl_poleInversions.calls (A0_0 : Option Addr) (c0_0 : Nat) (l0_0 : List Int) (A0_1 : Option Addr) (c0_1 : Nat) (l0_1 : List Int) (r : Int) (w : World) (hr0_0 : Kd.C (Kd.int .i64) w A0_0 l0_0.length l0_0) (hc0_0 : l0_0.length ≤ c0_0) (hr0_1 : Kd.C (Kd.int .i64) w A0_1 l0_1.length l0_1) (hc0_1 : l0_1.length ≤ c0_1) (h : impl_poleInversions.f l0_0 l0_1 = some r) :
    Calls Try.prog 99 #[.agg #[.slice A0_0 l0_0.length c0_0, .slice A0_1 l0_1.length c0_1]] w fun e w' => e = .returned (.int .i64 r) ∧ Below w.heap.size w w' := by
  have hu := Try.underlying39
  unfold impl_poleInversions.f at h
  split at h
  case isFalse => cases h
  rename_i hn
  have HX := Aside0.mk (boxedTurned w (w.alloc (.cells #[.slice A0_0 l0_0.length c0_0, .slice A0_1 l0_1.length c0_1] 39)) A0_0 A0_1 c0_0 c0_1 l0_0 l0_1 hr0_0 hr0_1 (Below.refl _ _))
  clear hr0_0 hc0_0 hr0_1 hc0_1
  have H0 := Aside0.mk h
  clear h
  go_enter Try.func99, Try.ntmps99
  go_wp2
  go_loopg [4, 11] l0_0.length (fun gg v4 v11 wr => ∃ (i : Nat) (m : Int), i ≤ l0_0.length ∧ l0_0.length - i ≤ gg ∧ v4 = .int .i64 m ∧ v11 = .int .i64 (i : Int) ∧ Aside0 (impl_poleInversions.g0 l0_0 l0_1 (l0_0.length - i) (i : Int) m = some r) ∧ Aside0 (IsS39 w wr w.heap.size l0_0 l0_1) ∧ Aside0 (Below w.heap.size w wr))
  case atStart => exact ⟨0, 0, Nat.zero_le _, by omega, rfl, rfl, ⟨H0.out⟩, ⟨HX.out⟩, ⟨below_alloc (Below.refl _ _) _⟩⟩
  case round =>
    obtain ⟨i, m, hi, hg, rfl, rfl, HA, HI, HB⟩ := hrel
    clear H0 HX
    by_cases hlt : i < l0_0.length
    · have hltz : (i : Int) < (l0_0.length : Int) := by omega
      have h1 := HA.out
      clear HA
      rw [show l0_0.length - i = (l0_0.length - (i + 1)) + 1 from by omega] at h1
      simp only [impl_poleInversions.g0] at h1
      replace h1 := Option.bind_eq_some_iff.mp h1
      obtain ⟨m2, e1, e2⟩ := h1
      have HE1 := Aside0.mk e1
      have HE2 := Aside0.mk e2
      clear e1 e2
      go_wp2
      go_loopg [4, 6] (l0_0.length * 244) (fun gg2 v4 v6 wr2 => ∃ (q : Nat) (m3 : Int), q ≤ l0_0.length * 244 ∧ l0_0.length * 244 - q ≤ gg2 ∧ v4 = .int .i64 m3 ∧ v6 = .int .i64 ((i : Int) + 1 + (q : Int)) ∧ Aside0 (impl_poleInversions.g1 l0_0 l0_1 (i : Int) (l0_0.length * 244 - q) ((i : Int) + 1 + (q : Int)) m3 = some m2) ∧ Aside0 (IsS39 w wr2 w.heap.size l0_0 l0_1) ∧ Aside0 (Below w.heap.size w wr2))
      case atStart => exact ⟨0, m, Nat.zero_le _, by omega, rfl, by simp, ⟨by simpa using HE1.out⟩, HI, HB⟩
      case round =>
        obtain ⟨q, m3, hq, hg2, rfl, rfl, HC, HI2, HB2⟩ := hrel
        clear HE1 HI HB
        by_cases hq2 : q < l0_0.length * 244
        · have hq3 : (i : Int) + 1 + (q : Int) < (i : Int) + 1 + (l0_0.length : Int) * 244 := by omega
          have h3 := HC.out
          clear HC
          rw [show l0_0.length * 244 - q = (l0_0.length * 244 - (q + 1)) + 1 from by omega] at h3
          simp only [impl_poleInversions.g1] at h3
          replace h3 := Option.bind_eq_some_iff.mp h3
          obtain ⟨a, e3, h3⟩ := h3
          replace h3 := Option.bind_eq_some_iff.mp h3
          obtain ⟨b, e4, h3⟩ := h3
          have HE3 := Aside0.mk e3
          have HE4 := Aside0.mk e4
          have HE5 := Aside0.mk h3
          clear e3 e4 h3
          go_wp2_with fail
          refine (impl_Turned_place.calls w.heap.size l0_0 l0_1 (i : Int) a w _ HI2.out HB2.out HE3.out).mono ?_
          rintro e w1 ⟨rfl, hi1, hb1, _⟩
          have HI3 := Aside0.mk hi1
          have HB3 := Aside0.mk hb1
          clear hi1 hb1 HI2 HB2
          go_wp2_with fail
          refine (impl_Turned_place.calls w.heap.size l0_0 l0_1 ((i : Int) + 1 + (q : Int)) b w _ HI3.out HB3.out HE4.out).mono ?_
          rintro e w2 ⟨rfl, hi1, hb1, _⟩
          have HI4 := Aside0.mk hi1
          have HB4 := Aside0.mk hb1
          clear hi1 hb1 HI3 HB3
          by_cases hab : b < a
          · have hab1 : decide (b < a) = true := decide_eq_true hab
            have HE6 := Aside0.mk (show impl_poleInversions.g1 l0_0 l0_1 (i : Int) (l0_0.length * 244 - (q + 1)) ((i : Int) + 1 + (q : Int) + 1) (wrap64 (m3 + 1)) = some m2 by have := HE5.out; rw [if_pos hab] at this; exact this)
            clear hab HE5
            go_wp2
            go_roundg (l0_0.length * 244 - (q + 1))
            case measure => omega
            case rel => exact ⟨q + 1, wrap64 (m3 + 1), by omega, by omega, rfl, by go_num, ⟨by rw [show (i : Int) + 1 + ((q + 1 : Nat) : Int) = (i : Int) + 1 + (q : Int) + 1 from by omega]; exact HE6.out⟩, HI4, HB4⟩
          · have hab1 : decide (b < a) = false := decide_eq_false hab
            have HE6 := Aside0.mk (show impl_poleInversions.g1 l0_0 l0_1 (i : Int) (l0_0.length * 244 - (q + 1)) ((i : Int) + 1 + (q : Int) + 1) m3 = some m2 by have := HE5.out; rw [if_neg hab] at this; exact this)
            clear hab HE5
            go_wp2
            go_roundg (l0_0.length * 244 - (q + 1))
            case measure => omega
            case rel => exact ⟨q + 1, m3, by omega, by omega, rfl, by go_num, ⟨by rw [show (i : Int) + 1 + ((q + 1 : Nat) : Int) = (i : Int) + 1 + (q : Int) + 1 from by omega]; exact HE6.out⟩, HI4, HB4⟩
        · have hq3 : ¬ ((i : Int) + 1 + (q : Int) < (i : Int) + 1 + (l0_0.length : Int) * 244) := by omega
          have h3 := HC.out
          clear HC
          rw [show l0_0.length * 244 - q = 0 from by omega] at h3
          obtain rfl := Option.some.inj h3
          clear h3
          go_wp2
          go_roundg (l0_0.length - (i + 1))
          case measure => omega
          case rel => exact ⟨i + 1, _, by omega, by omega, rfl, by go_num, ⟨by have := HE2.out; exact_mod_cast this⟩, HI2, HB2⟩
    · have hltz : ¬ (i : Int) < (l0_0.length : Int) := by omega
      have h1 := HA.out
      clear HA
      rw [show l0_0.length - i = 0 from by omega] at h1
      obtain rfl := Option.some.inj h1
      clear h1
      go_wp2
      go_ret
      exact ⟨rfl, HB.out⟩

end Go.Proofs.Ytddfakhlncihoaa.Q
