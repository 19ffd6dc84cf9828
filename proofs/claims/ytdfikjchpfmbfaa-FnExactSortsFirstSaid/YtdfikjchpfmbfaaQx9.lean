/- Each function below comes to the Lean function beside it (theorems '.calls'); no condition beyond each theorem's own. Written by our program oprint.py over the kit's print. -/
import Derived.Test.YtdfikjchpfmbfaaQx0
namespace Go.Proofs.Ytdfikjchpfmbfaa.Q
open Go.RowKit Go.Proofs.YtdfikjchpfmbfaaW.PrintWords Go.Proofs.YtdfikjchpfmbfaaW.PrintLast Go.Proofs.YtdfikjchpfmbfaaW.PrintMore
attribute [local go_sem] max2_int min2_int max_two min_two max_three min_three max_four min_four   -- for this text's walks alone
set_option linter.unusedVariables false
set_option linter.unusedSimpArgs false

/-- What a call leaves as it was: the streams, and all blocks but those of S and what is new since. -/
structure Eff (S : Nat → Prop) (w W : World) : Prop where
  b : Below 0 w W
  k : Kept w W S
theorem Eff.refl (S : Nat → Prop) (w : World) : Eff S w w := ⟨Below.refl _ _, Kept.refl _ _⟩
theorem eff_drew {S : Nat → Prop} {w W : World} (h : Eff S w W) : Eff S w W.drew := ⟨below_drew1 h.b, h.k.drew⟩
theorem eff_drewN {S : Nat → Prop} {w W : World} (h : Eff S w W) (n : Nat) : Eff S w (W.drewN n) := ⟨pw_below_drewN h.b n, h.k.drewN n⟩
theorem eff_alloc {S : Nat → Prop} {w W : World} (h : Eff S w W) (o : Obj) : Eff S w (W.alloc o) := ⟨h.b.alloc (Nat.zero_le _) o, h.k.alloc o⟩
theorem eff_set {S : Nat → Prop} {w W : World} {g j : Nat} {v : Value} (h : Eff S w W) (hg : w.heap.size ≤ g) : Eff S w (W.setCell ⟨g, j, none⟩ v) := ⟨h.b.setCell (Nat.zero_le _) _, h.k.setCell (.inr hg) _⟩
theorem eff_setS {S : Nat → Prop} {w W : World} {g j : Nat} {v : Value} (h : Eff S w W) (hg : S g ∨ w.heap.size ≤ g) : Eff S w (W.setCell ⟨g, j, none⟩ v) := ⟨h.b.setCell (Nat.zero_le _) _, h.k.setCell hg _⟩
theorem eff_step {S : Nat → Prop} {w W W2 : World} (h : Eff S w W) (k : Below W.heap.size W W2) : Eff S w W2 := ⟨h.b.trans (k.mono (Nat.zero_le _)), h.k.below k⟩
theorem eff_size {S : Nat → Prop} {w W : World} (h : Eff S w W) : w.heap.size ≤ W.heap.size := h.k.1
theorem eff_then {S S2 : Nat → Prop} {w W W2 : World} (h : Eff S w W) (k : Eff S2 W W2) (hs : ∀ k, S2 k → S k ∨ w.heap.size ≤ k) : Eff S w W2 := ⟨h.b.trans k.b, h.k.then_ k.k hs⟩
theorem eff_grown {S : Nat → Prop} {w W W2 : World} (h : Eff S w W) {row : Option Nat} (hg : W.grownBy W2 row) (hr : ∀ k, row = some k → S k ∨ w.heap.size ≤ k) : Eff S w W2 := ⟨h.b.grown hg (Nat.zero_le _) (fun _ _ => Nat.zero_le _), Kept.of_grown hg h.k hr⟩
theorem eff_below {S : Nat → Prop} {w0 w W : World} (hb : Below w0.heap.size w0 w) (h : Eff S w W) (hS : ∀ k, S k → w0.heap.size ≤ k) : Below w0.heap.size w0 W :=
  ⟨h.b.os.trans hb.os, h.b.tape.trans hb.tape, h.b.output.trans hb.output, Nat.le_trans hb.size h.k.1, fun k hk => (h.k.2 k (Nat.lt_of_lt_of_le hk hb.size) (fun hs => by have := hS k hs; omega)).trans (hb.block k hk)⟩
theorem Eff.of_below {S : Nat → Prop} {w W : World} (h : Below w.heap.size w W) : Eff S w W := ⟨h.mono (Nat.zero_le _), Kept.of_below h S⟩
/-- What is asked of a function value with one parameter that is a whole number: at a state s it comes to the next state; S: the blocks that are its own; B: below B nothing turns. -/
structure CloInt {α : Type} (g : Nat) (lb : Array Value) (B : Nat) (I : α → (Nat → Prop) → World → Prop) (step : α → Int → Option α) : Prop where
  enters : ∀ args w, (callFunc g args).run Try.prog w = .ok (.enter g args) w
  lt : ∀ s S W k, I s S W → S k → k < W.heap.size
  move : ∀ s S W W', I s S W → (∀ k, k < W.heap.size → (k < B ∨ S k) → W'.heap[k]? = W.heap[k]?) → W.heap.size ≤ W'.heap.size → I s S W'
  call : ∀ s s' S W x, I s S W → step s x = some s' → Calls Try.prog g (#[.int .i64 x] ++ lb) W fun e W' => e = .returned (.tuple #[]) ∧ ∃ S', I s' S' W' ∧ Eff S W W' ∧ ∀ k, S' k → S k ∨ W.heap.size ≤ k
/-- The same at a parameter that is a list of the caller's own: it may be kept. -/
structure CloList {α : Type} (g : Nat) (lb : Array Value) (B : Nat) (I : α → (Nat → Prop) → World → Prop) (step : α → List Int → Option α) : Prop where
  enters : ∀ args w, (callFunc g args).run Try.prog w = .ok (.enter g args) w
  lt : ∀ s S W k, I s S W → S k → k < W.heap.size
  move : ∀ s S W W', I s S W → (∀ k, k < W.heap.size → (k < B ∨ S k) → W'.heap[k]? = W.heap[k]?) → W.heap.size ≤ W'.heap.size → I s S W'
  call : ∀ s s' S W v xs, I s S W → Kd.R (Kd.int .i64) 3 W B (fun k => ¬ S k) v xs → step s xs = some s' → Calls Try.prog g (#[v] ++ lb) W fun e W' => e = .returned (.tuple #[]) ∧ ∃ S', I s' S' W' ∧ Eff S W W' ∧ ∀ k, S' k → S k ∨ v.ownBlock = some k ∨ W.heap.size ≤ k
/-- A row of the caller's own behind a call that writes to the blocks of S1. -/
theorem clo_row {α : Type} {d : Kd α} {e base : Nat} {v : Value} {xs : List α} {S1 S2 : Nat → Prop} {W W2 : World} (h : d.R e W base (fun k => ¬ S1 k) v xs) (he : Eff S1 W W2) (hs : ∀ k, S2 k → S1 k ∨ W.heap.size ≤ k) : d.R e W2 base (fun k => ¬ S2 k) v xs :=
  Kd.R_mono (Kd.R_kept (Kd.R_bound h) he.k (fun k hk => hk.1)) (fun k hk h2 => by
    rcases hs k h2 with h3 | h3
    · exact hk.1 h3
    · have := hk.2.2.1
      omega)
/-- A row that is new since none of the blocks of S was made. -/
theorem fresh_row {α : Type} {d : Kd α} {e base : Nat} {ok : Nat → Prop} {v : Value} {xs : List α} {S : Nat → Prop} {W : World} (h : d.R e W base ok v xs) (hs : ∀ k, S k → k < base) : d.R e W base (fun k => ¬ S k) v xs :=
  Kd.R_mono (Kd.R_bound h) (fun k hk h2 => by
    have := hs k h2
    have := hk.2.1
    omega)
/-- Two stores into a block that the function value has nothing to do with. -/
theorem heap_set2 {w : World} {g j1 j2 k : Nat} {u1 u2 : Value} (h : k ≠ g) : ((w.setCell ⟨g, j1, none⟩ u1).setCell ⟨g, j2, none⟩ u2).heap[k]? = w.heap[k]? := (Below.heap_setCell _ _ _ _ h).trans (Below.heap_setCell _ _ _ _ h)
theorem size_set2 {w : World} {g j1 j2 : Nat} {u1 u2 : Value} : w.heap.size ≤ ((w.setCell ⟨g, j1, none⟩ u1).setCell ⟨g, j2, none⟩ u2).heap.size := by simp [World.setCell]

end Go.Proofs.Ytdfikjchpfmbfaa.Q
