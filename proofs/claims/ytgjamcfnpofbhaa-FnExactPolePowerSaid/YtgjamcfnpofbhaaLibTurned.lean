/- Plain laws of the helpers of the exact laws over turned orders: copies, comparisons, marks; each under the bounds that its theorem names. -/
import Derived.Test.YtgjamcfnpofbhaaLibA
import Derived.Test.YtgjamcfnpofbhaaQx1
import Derived.Test.YtgjamcfnpofbhaaQx11
import Derived.Test.YtgjamcfnpofbhaaQx38
namespace Go.Proofs.Ytgjamcfnpofbhaa.L
open Go.RowKit Go.Proofs.Ytgjamcfnpofbhaa.Q Go.Proofs.YtgjamcfnpofbhaaW.PrintWords Go.Proofs.YtgjamcfnpofbhaaW.PrintLast
set_option linter.unusedVariables false
set_option linter.unusedSimpArgs false
theorem szTurned_at (l m : List Int) (a : Int) (h0 : 0 ≤ a) (h1 : a ≤ 1048576) (hl : l.length ≤ 9223372036854775807) (hm : m.length ≤ 9223372036854775807) : laws_szTurned.f l m a = some (if a < (l.length : Int) + (m.length : Int) then (-1 : Int) else a - ((l.length : Int) + (m.length : Int))) := by
  unfold laws_szTurned.f
  rw [szIntS l a (by omega) (by omega) hl, Option.bind_some]
  by_cases h : a < l.length
  · rw [if_pos h, if_pos (by omega), if_pos (by omega)]
  · rw [if_neg h, if_neg (by omega), szIntS m _ (by omega) (by omega) hm, Option.bind_some]
    by_cases h2 : a - l.length < m.length
    · rw [if_pos h2, if_pos (by omega), if_pos (by omega)]
    · rw [if_neg h2, if_neg (by omega), if_neg (by omega)]
      congr 1
      omega
theorem szTurned (l m : List Int) (hl : l.length ≤ 9223372036854775807) (hm : m.length ≤ 9223372036854775807) : laws_szTurned.f l m 1048576 = some (if (1048576 : Int) < (l.length : Int) + (m.length : Int) then (-1 : Int) else 1048576 - ((l.length : Int) + (m.length : Int))) :=
  szTurned_at l m 1048576 (by omega) (by omega) hl hm
theorem toTurned (l m : List Int) (hb : l.length ≤ 35184372088832) (hb2 : m.length ≤ 35184372088832) (k : Nat) (hk : l.length + m.length + 1 ≤ k) : laws_toTurned.f k l m = some (l, m) := by
  unfold laws_toTurned.f
  rw [toIntS l hb k (by omega), Option.bind_some, toIntS m hb2 k (by omega), Option.bind_some]
theorem eqTurned_self (l m : List Int) (hb : l.length ≤ 35184372088832) (hb2 : m.length ≤ 35184372088832) (k : Nat) (hk : l.length + m.length + 1 ≤ k) : laws_eqTurned.f k l m l m = some true := by
  unfold laws_eqTurned.f
  rw [eqIntS l l hb k (by omega), Option.bind_some, eqIntS m m hb2 k (by omega)]
  simp
end Go.Proofs.Ytgjamcfnpofbhaa.L
