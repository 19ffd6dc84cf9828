/- PlaceOf: the program's function and the reference's answer the same, for structs that fit into memory. -/
import Derived.Test.YtddfakhlncihoaaLibPlace
import Derived.Test.YtddfakhlncihoaaQx22
import Derived.Test.YtddfakhlncihoaaQx52
namespace Go.Proofs.Ytddfakhlncihoaa.L
open Go.RowKit Go.Proofs.Ytddfakhlncihoaa.Q Go.Proofs.YtddfakhlncihoaaW.PrintWords Go.Proofs.YtddfakhlncihoaaW.PrintLast
set_option linter.unusedVariables false
set_option linter.unusedSimpArgs false
theorem core_PlaceOf (p w : List Int) (i : Int) (hb : p.length ≤ 35184372088832) (hp : ∀ x ∈ p, (Lit.int .i64 x).wf = true) (hc : w.length ≤ 35184372088832) (hw : ∀ x ∈ w, (Lit.int .i64 x).wf = true) (hi : (Lit.int .i64 i).wf = true) :
    ∃ K r ok, (∀ k, K ≤ k → spec_PlaceOf.f k p w i = some (r, ok)) ∧ (∀ k, K ≤ k → impl_PlaceOf.f k p w i = some (r, ok)) := by
  by_cases h : isTur p w = true
  · by_cases h2 : (-1000 : Int) ≤ i ∧ i ≤ 1000
    · have h3 := (place_at p w h i (by omega)).1
      refine ⟨w.length + 25, placeV p w i, true, fun k hk => ?_, fun k hk => ?_⟩
      · simp [spec_PlaceOf.f, poTurned p w hc k hk, h, l1In, h2, h3]
      · simp [impl_PlaceOf.f, isTurned p w hc k hk, h, between, h2, h3, place_same]
    · refine ⟨w.length + 25, 0, false, fun k hk => ?_, fun k hk => ?_⟩
      · simp only [spec_PlaceOf.f, poTurned p w hc k hk, h, l1In, decide_eq_false h2, Option.bind_some, if_true]
        rfl
      · simp only [impl_PlaceOf.f, isTurned p w hc k hk, h, between, decide_eq_false h2, Option.bind_some, if_true]
        rfl
  · refine ⟨w.length + 25, 0, false, fun k hk => ?_, fun k hk => ?_⟩
    · simp [spec_PlaceOf.f, poTurned p w hc k hk, h]
    · simp [impl_PlaceOf.f, isTurned p w hc k hk, h]
end Go.Proofs.Ytddfakhlncihoaa.L
