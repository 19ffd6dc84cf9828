/- All orders of up to six numbers, as the program and the reference go through them: the same list; the finite facts by the kernel's run. -/
import Derived.Test.YtmljdibhdnckpaaLibSorting
import Derived.Test.YtmljdibhdnckpaaQx15
import Derived.Test.YtmljdibhdnckpaaQx36
import Derived.Test.YtmljdibhdnckpaaQx37
import Derived.Test.YtmljdibhdnckpaaQx58
namespace Go.Proofs.Ytmljdibhdnckpaa.L
open Go.RowKit Go.Proofs.Ytmljdibhdnckpaa.Q Go.Proofs.YtmljdibhdnckpaaW.PrintWords Go.Proofs.YtmljdibhdnckpaaW.PrintLast
set_option linter.unusedVariables false
set_option linter.unusedSimpArgs false
def foldX {α : Type} (step : α → List Int → Option α) : List (List Int) → α → Option α
  | [], s => some s
  | u :: us, s => (step s u).bind fun s2 => foldX step us s2
theorem foldX_app {α : Type} (step : α → List Int → Option α) : ∀ (a b : List (List Int)) (s : α), foldX step (a ++ b) s = (foldX step a s).bind fun s2 => foldX step b s2
  | [], b, s => rfl
  | u :: a, b, s => by
    show (step s u).bind (fun s2 => foldX step (a ++ b) s2) = ((step s u).bind fun s2 => foldX step a s2).bind fun s2 => foldX step b s2
    cases step s u with
    | none => rfl
    | some s2 => exact foldX_app step a b s2
def ordLsLoop (rec : List Int → List Int → List (List Int)) (done left : List Int) : Nat → Nat → List (List Int)
  | 0, _ => []
  | c + 1, i => rec (done ++ [left.getD i 0]) (left.take i ++ left.drop (i + 1)) ++ ordLsLoop rec done left c (i + 1)
def ordLs : Nat → List Int → List Int → List (List Int)
  | 0, done, _ => [done]
  | d + 1, done, left => ordLsLoop (ordLs d) done left (d + 1) 0
theorem ordF_fold {α : Type} (step : α → List Int → Option α) : ∀ (d : Nat) (done left : List Int) (s : α), left.length = d → done.length + left.length ≤ 100 → ordF step d done left s = foldX step (ordLs d done left) s
  | 0, done, left, s, hl, hd => by
    rw [ordF, if_pos (List.eq_nil_of_length_eq_zero hl), ordLs, foldX]
    cases step s done <;> rfl
  | d + 1, done, left, s, hl, hd => by
    rw [ordF, if_pos ⟨hl, by omega, by omega⟩, ordLs]
    have hloop : ∀ (c i : Nat) (s : α), i + c = d + 1 → ordLoop (ordF step d) done left c i s = foldX step (ordLsLoop (ordLs d) done left c i) s := by
      intro c
      induction c with
      | zero => intro i s hi; rfl
      | succ c ih =>
        intro i s hi
        have e := ordF_fold step d (done ++ [left.getD i 0]) (left.take i ++ left.drop (i + 1)) s (by simp; omega) (by simp; omega)
        rw [ordLoop, ordLsLoop, foldX_app, e]
        congr 1
        funext s2
        exact ih (i + 1) s2 (by omega)
    exact hloop (d + 1) 0 s (by omega)
/-- Each list's next one is the reference's; behind the last there is none. -/
def chk : List (List Int) → Bool
  | [] => false
  | [p] => decide (spec_soNext.f 40 p = some ([], false))
  | p :: q :: r => decide (spec_soNext.f 40 p = some (q, true)) && chk (q :: r)
theorem chain_fin : ∀ n ∈ List.range 7, n < 2 ∨ (chk (ordLs n [] (idL n)) = true ∧ (ordLs n [] (idL n)).head? = some (idL n) ∧ (ordLs n [] (idL n)).length ≤ 720 ∧ (ordLs n [] (idL n)).all (fun p => decide (p.length = n)) = true) := by decide +kernel
theorem first_fin : ∀ n ∈ List.range 7, spec_soFirst.f 12 (n : Int) = some (idL n) := by decide +kernel
theorem chain (n : Nat) (h1 : 2 ≤ n) (h2 : n ≤ 6) : ∃ r, ordLs n [] (idL n) = idL n :: r ∧ chk (idL n :: r) = true ∧ r.length ≤ 719 ∧ ∀ p ∈ idL n :: r, p.length = n := by
  rcases chain_fin n (List.mem_range.2 (by omega)) with h | ⟨a, b, c, e⟩
  · omega
  · cases hL : ordLs n [] (idL n) with
    | nil => rw [hL] at b; simp at b
    | cons p r =>
      rw [hL] at a b c e
      obtain rfl : p = idL n := by simpa using b
      refine ⟨r, rfl, a, by simp at c; omega, fun q hq => ?_⟩
      have := List.all_eq_true.1 e q hq
      simpa using this
theorem soFirst (n : Nat) (h2 : n ≤ 6) (k : Nat) (hk : 12 ≤ k) : spec_soFirst.f k (n : Int) = some (idL n) :=
  lift_k (f := fun k => spec_soFirst.f k (n : Int)) (fun k => spec_soFirst.mono _ k) (first_fin n (List.mem_range.2 (by omega))) k hk
theorem soNext_lift {p : List Int} {r : List Int × Bool} (h : spec_soNext.f 40 p = some r) (k : Nat) (hk : 40 ≤ k) : spec_soNext.f k p = some r :=
  lift_k (f := fun k => spec_soNext.f k p) (fun k => spec_soNext.mono _ k) h k hk
theorem chk_one {p : List Int} (h : chk [p] = true) : spec_soNext.f 40 p = some ([], false) := of_decide_eq_true h
theorem chk_two {p q : List Int} {r : List (List Int)} (h : chk (p :: q :: r) = true) : spec_soNext.f 40 p = some (q, true) ∧ chk (q :: r) = true := by
  rw [chk, Bool.and_eq_true] at h
  exact ⟨of_decide_eq_true h.1, h.2⟩
theorem ordersF_fold {α : Type} (step : α → List Int → Option α) (n : Nat) (h2 : n ≤ 6) (s : α) (k : Nat) (hk : 12 ≤ k) : ordersF step k (n : Int) s = foldX step (ordLs n [] (idL n)) s := by
  have e1 : impl_identity.f k (n : Int) = some (idL n) := lift_k (f := fun k => impl_identity.f k (n : Int)) (fun k => impl_identity.mono _ k) (identity_fin n (List.mem_range.2 (by omega))) k hk
  unfold ordersF
  rw [e1, Option.bind_some, idL_length]
  exact ordF_fold step n [] (idL n) s (idL_length n) (by rw [idL_length]; simp; omega)
theorem soSix (a : Int) (l : List Int) (hb : l.length ≤ 35184372088832) (k : Nat) (hk : l.length + 1 ≤ k) : spec_soSix.f k a l = some (isLadder a l && decide (a ≤ 6)) := by
  unfold spec_soSix.f
  rw [laGood a l hb k hk, Option.bind_some]
  cases isLadder a l <;> simp
theorem isFew (a : Int) (l : List Int) : impl_isFew.f a l = some (isLadder a l && decide (a ≤ 6)) := by
  unfold impl_isFew.f
  rw [isLadder_eq, Option.bind_some]
  cases isLadder a l <;> simp
theorem few_wires {a : Int} {l : List Int} (h : (isLadder a l && decide (a ≤ 6)) = true) : 2 ≤ a ∧ a ≤ 6 ∧ l.length ≤ 60 ∧ ∀ r ∈ l, 0 ≤ r ∧ r ≤ a - 2 := by
  rw [Bool.and_eq_true, decide_eq_true_eq] at h
  obtain ⟨h1, h2, h3, h4⟩ := isLadder_wires h.1
  exact ⟨h1, h.2, h3, h4⟩
end Go.Proofs.Ytmljdibhdnckpaa.L
