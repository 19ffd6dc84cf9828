/- What the draws of chapter 4 answer: for codes of bytes. -/
import Derived.Test.YtpmpgncjlcdabaaLibDraw
import Derived.Test.YtpmpgncjlcdabaaQx1
import Derived.Test.YtpmpgncjlcdabaaQx13
namespace Go.Proofs.Ytpmpgncjlcdabaa.L
open Go.RowKit Go.Proofs.Ytpmpgncjlcdabaa.Q Go.Proofs.YtpmpgncjlcdabaaW.PrintWords Go.Proofs.YtpmpgncjlcdabaaW.PrintLast
set_option linter.unusedVariables false
set_option linter.unusedSimpArgs false
/-- Numbers of wires and rungs that are drawn. -/
def fallL (most : Nat) : List (Int × Int) := ([1, 2, 6, 7, -1].flatMap fun n => [0, 1, 20, 21, -1].map fun k => ((n : Int), (k : Int))) ++ ((List.range (most - 1)).flatMap fun n => (List.range 9).map fun k => (((n + 2 : Nat) : Int), ((k : Nat) : Int)))
theorem fall_ok {l : List Int} (hl : Code l) (a s : Int) (most : Nat) (hm : 2 ≤ most ∧ most ≤ 100) (h0 : 0 ≤ a) (h1 : a ≤ 100000000000000) : ∃ n k b s', spec_l1Cur_fall.f l a s (most : Int) = some (n, k, b, s') ∧ (n, k) ∈ fallL most ∧ a ≤ b ∧ b ≤ a + 3 := by
  obtain ⟨o, b, s1, e1, h2, h3⟩ := one_ok hl a s 10 h0 (by omega) (by omega)
  unfold spec_l1Cur_fall.f
  rw [e1, Option.bind_some]
  simp only []
  by_cases ho : o = true
  · obtain ⟨n, b2, s2, e2, hn, h4, h5⟩ := among_ok hl b s1 [1, 2, 6, 7, -1] (by omega) (by omega) (by decide) (by decide)
    obtain ⟨k, b3, s3, e3, hk, h6, h7⟩ := among_ok hl b2 s2 [0, 1, 20, 21, -1] (by omega) (by omega) (by decide) (by decide)
    rw [if_pos ho, e2, Option.bind_some]
    simp only []
    rw [e3, Option.bind_some]
    refine ⟨n, k, b3, s3, rfl, ?_, by omega, by omega⟩
    unfold fallL
    refine List.mem_append_left _ (List.mem_flatMap.2 ⟨n, hn, List.mem_map.2 ⟨k, hk, rfl⟩⟩)
  · rw [if_neg ho, wrap_idD (by omega) (by omega)]
    obtain ⟨v, b2, s2, e2, hv0, hv1, hv2, h4, h5⟩ := pick_ok hl b s1 ((most : Int) - 1) (by omega) (by omega) (by omega)
    have hv : v < (most : Int) - 1 := by
      by_cases c : (most : Int) - 1 ≤ 1
      · rw [hv1 c]; omega
      · exact hv2 (by omega)
    rw [e2, Option.bind_some]
    simp only []
    obtain ⟨k, b3, s3, e3, hk0, _, hk2, h6, h7⟩ := pick_ok hl b2 s2 9 (by omega) (by omega) (by omega)
    have hk := hk2 (by omega)
    rw [e3, Option.bind_some, wrap_idD (n := 2 + v) (by omega) (by omega)]
    refine ⟨2 + v, k, b3, s3, rfl, ?_, by omega, by omega⟩
    unfold fallL
    refine List.mem_append_right _ (List.mem_flatMap.2 ⟨v.toNat, List.mem_range.2 (by omega), List.mem_map.2 ⟨k.toNat, List.mem_range.2 (by omega), ?_⟩⟩)
    show (_, _) = (_, _)
    congr 1 <;> omega
theorem countEnds_ok {l : List Int} (hl : Code l) : ∃ n k c d, spec_DrawCountEnds.f l = some (n, k, c, d) ∧ (n, k) ∈ fallL 6 ∧ (-1 ≤ c ∧ c ≤ 5) ∧ (-1 ≤ d ∧ d ≤ 5) := by
  obtain ⟨n, k, b, s, e, hm, h0, h1⟩ := fall_ok hl 0 0 6 (by omega) (by omega) (by omega)
  unfold spec_DrawCountEnds.f
  have e' : spec_l1Cur_fall.f l 0 0 6 = _ := e
  rw [e', Option.bind_some]
  simp only []
  obtain ⟨c, b2, s2, e2, c0, _, c2, h2, h3⟩ := pick_ok hl b s 7 (by omega) (by omega) (by omega)
  have := c2 (by omega)
  rw [e2, Option.bind_some]
  simp only []
  obtain ⟨d, b3, s3, e3, d0, _, d2, h4, h5⟩ := pick_ok hl b2 s2 7 (by omega) (by omega) (by omega)
  have := d2 (by omega)
  rw [e3, Option.bind_some, wrap_idD (n := c - 1) (by omega) (by omega), wrap_idD (n := d - 1) (by omega) (by omega)]
  exact ⟨n, k, c - 1, d - 1, rfl, hm, by omega, by omega⟩
theorem chancesFrom_ok {l : List Int} (hl : Code l) : ∃ n k c, spec_DrawChancesFrom.f l = some (n, k, c) ∧ (n, k) ∈ fallL 6 ∧ (-1 ≤ c ∧ c ≤ 5) := by
  obtain ⟨n, k, c, d, e, hm, hc, _⟩ := countEnds_ok hl
  unfold spec_DrawChancesFrom.f
  rw [e]
  exact ⟨_, _, _, rfl, hm, hc⟩
end Go.Proofs.Ytpmpgncjlcdabaa.L
