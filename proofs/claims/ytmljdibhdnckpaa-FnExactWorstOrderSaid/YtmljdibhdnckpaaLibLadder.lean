/- Plain laws of the helpers of the exact laws over ladders: copies, comparisons, marks; each under the bounds that its theorem names. -/
import Derived.Test.YtmljdibhdnckpaaLibA
import Derived.Test.YtmljdibhdnckpaaQx4
import Derived.Test.YtmljdibhdnckpaaQx15
namespace Go.Proofs.Ytmljdibhdnckpaa.L
open Go.RowKit Go.Proofs.Ytmljdibhdnckpaa.Q Go.Proofs.YtmljdibhdnckpaaW.PrintWords Go.Proofs.YtmljdibhdnckpaaW.PrintLast
set_option linter.unusedVariables false
set_option linter.unusedSimpArgs false
theorem szLadder (a : Int) (l : List Int) (hl : l.length ≤ 9223372036854775807) : laws_szLadder.f a l 1048576 = some (if (1048576 : Int) < (l.length : Int) then (-1 : Int) else 1048576 - (l.length : Int)) := by
  unfold laws_szLadder.f
  rw [szIntS l 1048576 (by omega) (by omega) hl, Option.bind_some]
  by_cases h : (1048576 : Int) < l.length
  · rw [if_pos h]; rfl
  · rw [if_neg h, if_neg (by omega)]
theorem toLadder (a : Int) (l : List Int) (hb : l.length ≤ 35184372088832) (k : Nat) (hk : l.length + 1 ≤ k) : laws_toLadder.f k a l = some (a, l) := by
  unfold laws_toLadder.f
  rw [toIntS l hb k hk, Option.bind_some]
theorem eqLadder (a b : Int) (l m : List Int) (hb : l.length ≤ 35184372088832) (k : Nat) (hk : l.length + 1 ≤ k) : laws_eqLadder.f k a l b m = some (decide (a = b ∧ l = m)) := by
  unfold laws_eqLadder.f
  by_cases h : a = b
  · rw [if_pos h, eqIntS l m hb k hk, Option.bind_some]
    by_cases h2 : l = m
    · simp [h, h2]
    · simp [h, h2]
  · rw [if_neg h]
    simp [h]
theorem eqLadder_self (a : Int) (l : List Int) (hb : l.length ≤ 35184372088832) (k : Nat) (hk : l.length + 1 ≤ k) : laws_eqLadder.f k a l a l = some true := by
  rw [eqLadder a a l l hb k hk]
  simp
theorem markLadder (b : Int) (l : List Int) (a : Int) (h0 : 0 ≤ a) (h1 : a ≤ 35184372088832) (hb : l.length ≤ 35184372088832) (k : Nat) (hk : l.length + 1 ≤ k) : laws_markLadder.f k b l a = some (a + l.length, marks l.length a) := by
  unfold laws_markLadder.f
  rw [markIntS l a h0 h1 hb k hk, Option.bind_some]
theorem heldLadder (b : Int) (n : Nat) (a : Int) (h0 : 0 ≤ a) (h1 : a ≤ 35184372088832) (hb : n ≤ 35184372088832) (k : Nat) (hk : n + 1 ≤ k) : laws_heldLadder.f k b (marks n a) a = some (a + n) := by
  unfold laws_heldLadder.f
  rw [heldIntS n a h0 h1 hb k hk, Option.bind_some, if_neg (by omega)]
end Go.Proofs.Ytmljdibhdnckpaa.L
