/- Each function below comes to the Lean function beside it (theorems '.calls'); no condition beyond each theorem's own. Written by our program oprint.py over the kit's print. -/
import Derived.Test.YtddfakhlncihoaaQx0
import Derived.Test.YtddfakhlncihoaaQx2
import Derived.Test.YtddfakhlncihoaaQx13
import Derived.Test.YtddfakhlncihoaaQx23
namespace Go.Proofs.Ytddfakhlncihoaa.Q
open Go.RowKit Go.Proofs.YtddfakhlncihoaaW.PrintWords Go.Proofs.YtddfakhlncihoaaW.PrintLast Go.Proofs.YtddfakhlncihoaaW.PrintMore
attribute [local go_sem] max2_int min2_int max_two min_two max_three min_three max_four min_four   -- for this text's walks alone
set_option linter.unusedVariables false
set_option linter.unusedSimpArgs false

/-! ### impl_PlaceOf: function 40 -/
-- GIVEN impl_PlaceOf
def impl_PlaceOf.f (k : Nat) (l0_0 : List Int) (l0_1 : List Int) (a1 : Int) : Option (Int × Bool) := (impl_isTurned.f k l0_0 l0_1).bind fun t1 => (if t1 = true then ((impl_between.f a1 (-1000) 1000).bind fun t2 => (if t2 = true then ((impl_Turned_place.f l0_0 l0_1 a1).bind fun t3 => (some (t3, true))) else (some (0, false)))) else (some (0, false)))
theorem impl_PlaceOf.mono : ∀ a0 a1 a2 k, LeO (impl_PlaceOf.f k a0 a1 a2) (impl_PlaceOf.f (k + 1) a0 a1 a2) := by
  intro a0 a1 a2 k
  unfold impl_PlaceOf.f
  exact LeO.bind (impl_isTurned.mono _ _ _) (fun _ => LeO.refl _)
/-- A struct of two slices that was boxed, in a later world. -/
theorem boxedTurned (w W : World) (A0 A1 : Option Addr) (c0 c1 : Nat) (l0 l1 : List Int) (h0 : Kd.C (Kd.int .i64) w A0 l0.length l0) (h1 : Kd.C (Kd.int .i64) w A1 l1.length l1)
    (hb : Below (w.alloc (.cells #[.slice A0 l0.length c0, .slice A1 l1.length c1] 39)).heap.size (w.alloc (.cells #[.slice A0 l0.length c0, .slice A1 l1.length c1] 39)) W) :
    IsS39 w W w.heap.size l0 l1 := by
  refine ⟨A0, c0, A1, c1, ?_, Nat.le_refl _, h0, h1⟩
  rw [hb.block w.heap.size (by show w.heap.size < (w.heap.push _).size; rw [Array.size_push]; omega)]
  show (w.heap.push _)[w.heap.size]? = _
  exact Array.getElem?_push_size
set_option maxHeartbeats 8000000 in
set_option maxRecDepth 100000 in
theorem impl_PlaceOf.calls (k : Nat) (A0_0 : Option Addr) (c0_0 : Nat) (l0_0 : List Int) (A0_1 : Option Addr) (c0_1 : Nat) (l0_1 : List Int) (a1 : Int) (r1 : Int) (r2 : Bool) (w : World) (hr0_0 : Kd.C (Kd.int .i64) w A0_0 l0_0.length l0_0) (hc0_0 : l0_0.length ≤ c0_0) (hr0_1 : Kd.C (Kd.int .i64) w A0_1 l0_1.length l0_1) (hc0_1 : l0_1.length ≤ c0_1) (h : impl_PlaceOf.f k l0_0 l0_1 a1 = some (r1, r2)) :
    Calls Try.prog 40 #[.agg #[.slice A0_0 l0_0.length c0_0, .slice A0_1 l0_1.length c0_1], .int .i64 a1] w fun e w' => e = .returned (.tuple #[.int .i64 r1, .bool r2]) ∧ Below w.heap.size w w' := by
  have hu := Try.underlying39
  have HR0 := Aside0.mk hr0_0
  have HC0 := Aside0.mk hc0_0
  have HR1 := Aside0.mk hr0_1
  have HC1 := Aside0.mk hc0_1
  clear hr0_0 hc0_0 hr0_1 hc0_1
  have HX := Aside0.mk (fun (W : World) (hb : Below (w.alloc (.cells #[.slice A0_0 l0_0.length c0_0, .slice A0_1 l0_1.length c0_1] 39)).heap.size (w.alloc (.cells #[.slice A0_0 l0_0.length c0_0, .slice A0_1 l0_1.length c0_1] 39)) W) => boxedTurned w W A0_0 A0_1 c0_0 c0_1 l0_0 l0_1 HR0.out HR1.out hb)
  unfold impl_PlaceOf.f at h
  replace h := Option.bind_eq_some_iff.mp h
  obtain ⟨t1, e1, h⟩ := h
  have A1 := Aside0.mk e1
  clear e1
  cases t1 with
  | false =>
    have h2 : some (0, false) = some (r1, r2) := h
    simp only [Option.some.injEq, Prod.mk.injEq] at h2
    obtain ⟨rfl, rfl⟩ := h2
    clear h
    go_enter Try.func40, Try.ntmps40
    go_wp2_with (first | (go_at_call 82; refine (impl_isTurned.calls k _ _ l0_0 _ _ l0_1 false _ (Kd.C_alloc HR0.out _) HC0.out (Kd.C_alloc HR1.out _) HC1.out A1.out).mono ?_; rintro e w' ⟨rfl, hb⟩; have HB := Aside0.mk hb; clear hb))
    go_ret2
    exact ⟨rfl, (below_alloc (Below.refl _ _) _).trans (HB.out.mono (by show w.heap.size ≤ (w.heap.push _).size; rw [Array.size_push]; omega))⟩
  | true =>
    have h2 : ((impl_between.f a1 (-1000) 1000).bind fun t2 => (if t2 = true then ((impl_Turned_place.f l0_0 l0_1 a1).bind fun t3 => (some (t3, true))) else (some (0, false)))) = some (r1, r2) := h
    clear h
    replace h2 := Option.bind_eq_some_iff.mp h2
    obtain ⟨t2, e2, h⟩ := h2
    have A2 := Aside0.mk e2
    clear e2
    cases t2 with
    | false =>
      have h2 : some (0, false) = some (r1, r2) := h
      simp only [Option.some.injEq, Prod.mk.injEq] at h2
      obtain ⟨rfl, rfl⟩ := h2
      clear h
      go_enter Try.func40, Try.ntmps40
      go_wp2_with (first | (go_at_call 82; refine (impl_isTurned.calls k _ _ l0_0 _ _ l0_1 true _ (Kd.C_alloc HR0.out _) HC0.out (Kd.C_alloc HR1.out _) HC1.out A1.out).mono ?_; rintro e w' ⟨rfl, hb⟩; have HB := Aside0.mk hb; clear hb) | (go_at_call 80; (with_reducible refine (impl_between.calls a1 (-1000) 1000 false _ A2.out).mono ?_); rintro e w' ⟨rfl, ⟨nd, rfl⟩⟩))
      go_ret2
      exact ⟨rfl, by repeat (first | exact (below_alloc (Below.refl _ _) _).trans (HB.out.mono (by show w.heap.size ≤ (w.heap.push _).size; rw [Array.size_push]; omega)) | apply pw_below_drewN | apply below_drew1)⟩
    | true =>
      have h2 : ((impl_Turned_place.f l0_0 l0_1 a1).bind fun t3 => (some (t3, true))) = some (r1, r2) := h
      clear h
      replace h2 := Option.bind_eq_some_iff.mp h2
      obtain ⟨t3, e3, h⟩ := h2
      have A3 := Aside0.mk e3
      clear e3
      simp only [Option.some.injEq, Prod.mk.injEq] at h
      obtain ⟨rfl, rfl⟩ := h
      go_enter Try.func40, Try.ntmps40
      go_wp2_with (first | (go_at_call 82; refine (impl_isTurned.calls k _ _ l0_0 _ _ l0_1 true _ (Kd.C_alloc HR0.out _) HC0.out (Kd.C_alloc HR1.out _) HC1.out A1.out).mono ?_; rintro e w' ⟨rfl, hb⟩; have HB := Aside0.mk hb; clear hb) | (go_at_call 80; (with_reducible refine (impl_between.calls a1 (-1000) 1000 true _ A2.out).mono ?_); rintro e w' ⟨rfl, ⟨nd, rfl⟩⟩) | (go_at_call 89; refine (impl_Turned_place.calls w.heap.size l0_0 l0_1 a1 t3 w _ (IsS39.drewN (HX.out _ HB.out) _) (pw_below_drewN ((below_alloc (Below.refl _ _) _).trans (HB.out.mono (by show w.heap.size ≤ (w.heap.push _).size; rw [Array.size_push]; omega))) _) A3.out).mono ?_; rintro e w'' ⟨rfl, _, hb2, _⟩; have HB2 := Aside0.mk hb2; clear hb2))
      go_ret2
      exact ⟨rfl, HB2.out⟩

end Go.Proofs.Ytddfakhlncihoaa.Q
