/- Plain laws of the helpers of the exact laws over poles: copies, comparisons, marks; each under the bounds that its theorem names. -/
import Derived.Test.YtgjamcfnpofbhaaLibA
import Derived.Test.YtgjamcfnpofbhaaQx1
import Derived.Test.YtgjamcfnpofbhaaQx6
namespace Go.Proofs.Ytgjamcfnpofbhaa.L
open Go.RowKit Go.Proofs.Ytgjamcfnpofbhaa.Q Go.Proofs.YtgjamcfnpofbhaaW.PrintWords Go.Proofs.YtgjamcfnpofbhaaW.PrintLast
set_option linter.unusedVariables false
set_option linter.unusedSimpArgs false
theorem szPole (a : Int) (l : List Int) (hl : l.length ≤ 9223372036854775807) : laws_szPole.f a l 1048576 = some (if (1048576 : Int) < (l.length : Int) then (-1 : Int) else 1048576 - (l.length : Int)) := by
  unfold laws_szPole.f
  rw [szIntS l 1048576 (by omega) (by omega) hl, Option.bind_some]
  by_cases h : (1048576 : Int) < l.length
  · rw [if_pos h]; rfl
  · rw [if_neg h, if_neg (by omega)]
theorem toPole (a : Int) (l : List Int) (hb : l.length ≤ 35184372088832) (k : Nat) (hk : l.length + 1 ≤ k) : laws_toPole.f k a l = some (a, l) := by
  unfold laws_toPole.f
  rw [toIntS l hb k hk, Option.bind_some]
theorem eqPole (a b : Int) (l m : List Int) (hb : l.length ≤ 35184372088832) (k : Nat) (hk : l.length + 1 ≤ k) : laws_eqPole.f k a l b m = some (decide (a = b ∧ l = m)) := by
  unfold laws_eqPole.f
  by_cases h : a = b
  · rw [if_pos h, eqIntS l m hb k hk, Option.bind_some]
    by_cases h2 : l = m
    · simp [h, h2]
    · simp [h, h2]
  · rw [if_neg h]
    simp [h]
theorem eqPole_self (a : Int) (l : List Int) (hb : l.length ≤ 35184372088832) (k : Nat) (hk : l.length + 1 ≤ k) : laws_eqPole.f k a l a l = some true := by
  rw [eqPole a a l l hb k hk]
  simp
theorem markPole (b : Int) (l : List Int) (a : Int) (h0 : 0 ≤ a) (h1 : a ≤ 35184372088832) (hb : l.length ≤ 35184372088832) (k : Nat) (hk : l.length + 1 ≤ k) : laws_markPole.f k b l a = some (a + l.length, marks l.length a) := by
  unfold laws_markPole.f
  rw [markIntS l a h0 h1 hb k hk, Option.bind_some]
theorem heldPole (b : Int) (n : Nat) (a : Int) (h0 : 0 ≤ a) (h1 : a ≤ 35184372088832) (hb : n ≤ 35184372088832) (k : Nat) (hk : n + 1 ≤ k) : laws_heldPole.f k b (marks n a) a = some (a + n) := by
  unfold laws_heldPole.f
  rw [heldIntS n a h0 h1 hb k hk, Option.bind_some, if_neg (by omega)]
end Go.Proofs.Ytgjamcfnpofbhaa.L
