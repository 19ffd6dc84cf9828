/- Plain laws of the helpers of the exact laws over poles: copies, comparisons, marks; each under the bounds that its theorem names. -/
import Derived.Test.YtgjamcfnpofbhaaDoorLibA
import Derived.Test.YtgjamcfnpofbhaaDoorQx1
import Derived.Test.YtgjamcfnpofbhaaDoorQx3
import Derived.Test.YtgjamcfnpofbhaaDoorQx7
namespace Go.Proofs.YtgjamcfnpofbhaaDoor.L
open Go.RowKit Go.Proofs.YtgjamcfnpofbhaaDoor.Q Go.Proofs.YtgjamcfnpofbhaaDoorW.PrintWords Go.Proofs.YtgjamcfnpofbhaaDoorW.PrintLast
set_option linter.unusedVariables false
set_option linter.unusedSimpArgs false
theorem szPole (a : Int) (l : List Int) (hl : l.length ≤ 9223372036854775807) : laws_szPole.f a l 1048576 = some (if (1048576 : Int) < (l.length : Int) then (-1 : Int) else 1048576 - (l.length : Int)) := by
  unfold laws_szPole.f
  rw [szIntS l 1048576 (by omega) (by omega) hl, Option.bind_some]
  by_cases h : (1048576 : Int) < l.length
  · rw [if_pos h]; rfl
  · rw [if_neg h, if_neg (by omega)]
theorem toPole (a : Int) (l : List Int) (hb : l.length ≤ 35184372088832) (k : Nat) (hk : l.length + 1 ≤ k) : laws_toPole.f k a l = some (a, l) := by
  unfold laws_toPole.f
  rw [toIntS l hb k hk, Option.bind_some]
theorem eqPole (a b : Int) (l m : List Int) (hb : l.length ≤ 35184372088832) (k : Nat) (hk : l.length + 1 ≤ k) : laws_eqPole.f k a l b m = some (decide (a = b ∧ l = m)) := by
  unfold laws_eqPole.f
  by_cases h : a = b
  · rw [if_pos h, eqIntS l m hb k hk, Option.bind_some]
    by_cases h2 : l = m
    · simp [h, h2]
    · simp [h, h2]
  · rw [if_neg h]
    simp [h]
theorem eqPole_self (a : Int) (l : List Int) (hb : l.length ≤ 35184372088832) (k : Nat) (hk : l.length + 1 ≤ k) : laws_eqPole.f k a l a l = some true := by
  rw [eqPole a a l l hb k hk]
  simp
end Go.Proofs.YtgjamcfnpofbhaaDoor.L
