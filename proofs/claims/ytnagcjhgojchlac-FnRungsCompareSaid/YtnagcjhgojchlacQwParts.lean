/- A part of a walk: what is left to prove (Q1, Q2, ..) and that the whole follows from it. -/
import Derived.Test.YtnagcjhgojchlacQm0
namespace Go.Proofs.Ytnagcjhgojchlac.Q
structure Later (Q : Prop) : Prop where
  out : Q
structure Part1 (G : Prop) where
  Q1 : Prop
  imp : Later Q1 → G
structure Part2 (G : Prop) where
  Q1 : Prop
  Q2 : Prop
  imp : Later Q1 → Later Q2 → G

end Go.Proofs.Ytnagcjhgojchlac.Q
