/- Each function below comes to the Lean function beside it (theorems '.calls'); no condition beyond each theorem's own. Written by our program oprint.py over the kit's print. -/
import Derived.Test.YtgjamcfnpofbhaaQx0
import Derived.Lib.AppendZeros
namespace Go.Proofs.Ytgjamcfnpofbhaa.Q
open Go.RowKit Go.Proofs.YtgjamcfnpofbhaaW.PrintWords Go.Proofs.YtgjamcfnpofbhaaW.PrintLast Go.Proofs.YtgjamcfnpofbhaaW.PrintMore
attribute [local go_sem] max2_int min2_int max_two min_two max_three min_three max_four min_four   -- for this text's walks alone
set_option linter.unusedVariables false
set_option linter.unusedSimpArgs false

/-! ### slices_Grow_int_int: function 64 -/
-- GIVEN slices_Grow_int_int
/-- Told for the nil slice alone. -/
def slices_Grow_int_int.f (l0 : List Int) (n : Int) : Option (List Int) := if l0 = [] ∧ 0 ≤ n ∧ n ≤ 1000000000 then some [] else none
theorem slices_Grow_int_int.info : (Try.prog.info? 3).map (fun i => (i.zero, i.size, i.bytes)) = some (some (.int .i64 0), 1, 8) := by kernel_rfl
set_option maxHeartbeats 8000000 in
set_option maxRecDepth 100000 in
theorem slices_Grow_int_int.calls (A0 : Option Addr) (c0 : Nat) (l0 : List Int) (n : Int) (r : List Int) (w : World) (hr0 : Kd.C (Kd.int .i64) w A0 l0.length l0) (hc0 : l0.length ≤ c0) (h : slices_Grow_int_int.f l0 n = some r) (hA : A0 = none := by rfl) (hz : c0 = 0 := by rfl) :
    Calls Try.prog 64 #[.slice A0 l0.length c0, .int .i64 n] w fun e w' => ∃ v0_ : Value, e = .returned (v0_) ∧ Kd.R (Kd.int .i64) 3 w' w.heap.size (fun _ => True) v0_ r ∧ Below w.heap.size w w' := by
  unfold slices_Grow_int_int.f at h
  split at h
  case isFalse => cases h
  rename_i c2
  obtain rfl := Option.some.inj h
  clear h
  obtain ⟨rfl, c2⟩ := c2
  subst hA
  subst hz
  clear hr0 hc0
  show Calls Try.prog 64 #[.slice none 0 0, .int .i64 n] w _
  have h1 : ¬ (n < 0) := by omega
  have h2 : wrap64 ((0 : Int) - 0) = 0 := by unfold wrap64; omega
  have h3 : wrap64 (n - 0) = n := by unfold wrap64; omega
  by_cases hn : n = 0
  · subst hn
    go_enter Try.func64, Try.ntmps64
    go_wp2
    go_ret
    exact ⟨_, rfl, Kd.R_nil _ _ _ _ _, by repeat (first | exact Below.refl _ _ | apply below_alloc | apply pw_below_drewN | apply below_drew1)⟩
  · have h4 : n > 0 := by omega
    have hrun : ∀ W : World, w.heap.size ≤ W.heap.size → ∃ A c, ∃ w1, (Builtin.append_ #[22, 3] 22 #[.slice none 0 0, .int .i64 n]).run Try.prog W = .ok (.slice A n.toNat c) w1 ∧ Kd.R (Kd.int .i64) 3 w1 w.heap.size (fun _ => True) (.slice A 0 c) [] ∧ Below W.heap.size W w1 := by
      intro W hW
      obtain ⟨v1, w1, hr1, hR, hg, hat⟩ := Kd.R_zeros_run (P := Try.prog) (Kd.int .i64) (W := W) w.heap.size 22 3 22 3 (.int .i64 0) 8 Try.underlying22 (k := .i64) Try.underlying3 slices_Grow_int_int.info rfl (by decide) (by decide) (.slice none 0 0) ([] : List Int) 0 (ok := fun _ => True) (by first | exact rfl | exact ⟨rfl, rfl⟩ | simp [Kd.int] | decide) (fun _ _ => trivial) (Kd.R_nil _ _ _ _ _) .i64 n (by omega) (by simp; omega) hW
      obtain ⟨A, c, rfl, hc⟩ := OwnRow.slice_ hR.2
      rw [List.nil_append, List.length_replicate] at hr1
      refine ⟨A, c, w1, hr1, ?_, ?_⟩
      · have := Kd.R_take hR (m := 0) (by simp)
        simpa using this
      · exact ⟨hg.os, hg.tape, hg.output, hg.size, fun k hk => hg.block k hk (by simp [Value.ownBlock])⟩
    go_enter Try.func64, Try.ntmps64
    obtain ⟨A, c, w1, e1, hR, hB⟩ := hrun w (Nat.le_refl _)
    go_wp2_with (at_builtin; refine Lib.wpList_append_run _ rfl _ _ _ _ rfl _ _ rfl rfl _ _ e1 ?_)
    go_ret
    exact ⟨_, rfl, by (with_reducible repeat (first | apply Kd.R_alloc | apply Kd.R_drewN | apply Kd.R_drew)); exact hR, by repeat (first | exact hB | apply below_alloc | apply pw_below_drewN | apply below_drew1)⟩

end Go.Proofs.Ytgjamcfnpofbhaa.Q
