/- A part of a walk: what is left to prove (Q1, Q2, ..) and that the whole follows from it. -/
import Derived.Test.YtnagcjhgojchlaaQm0
namespace Go.Proofs.Ytnagcjhgojchlaa.Q
structure Later (Q:Prop):Prop where
  out:Q
structure Part1 (G:Prop) where
  Q1:Prop
  imp:Later Q1→G
structure Part2 (G:Prop) where
  Q1:Prop
  Q2:Prop
  imp:Later Q1→Later Q2→G
structure Part3 (G:Prop) where
  Q1:Prop
  Q2:Prop
  Q3:Prop
  imp:Later Q1→Later Q2→Later Q3→G
end Go.Proofs.Ytnagcjhgojchlaa.Q
