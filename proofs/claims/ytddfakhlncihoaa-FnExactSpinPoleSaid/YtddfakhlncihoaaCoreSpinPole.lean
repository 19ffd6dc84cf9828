/- SpinPole: the program's function and the reference's answer the same, for poles whose rungs fit into memory. -/
import Derived.Test.YtddfakhlncihoaaLibAll
import Derived.Test.YtddfakhlncihoaaQx6
import Derived.Test.YtddfakhlncihoaaQx7
namespace Go.Proofs.Ytddfakhlncihoaa.L
open Go.RowKit Go.Proofs.Ytddfakhlncihoaa.Q Go.Proofs.YtddfakhlncihoaaW.PrintWords Go.Proofs.YtddfakhlncihoaaW.PrintLast
set_option linter.unusedVariables false
set_option linter.unusedSimpArgs false
theorem spin_same : ∀ (k : Nat) (s : Int) (l : List Int) (n i a : Int) (r : List Int) (b : Int) (m : List Int), impl_SpinPole.l0 k s l n i a r b m = spec_SpinPole.l0 k s l n i a r b m
  | 0, _, _, _, _, _, _, _, _ => rfl
  | k + 1, s, l, n, i, a, r, b, m => by simp only [impl_SpinPole.l0, spec_SpinPole.l0, spin_same k]
theorem spin_l0 (s a : Int) (l r : List Int) (b : Int) (ha : a ≠ 0) (hb : l.length ≤ 60) (d : Nat) : ∀ (i k : Nat) (m : List Int), i + d = l.length → m.length ≤ i → d < k → spec_SpinPole.l0 k s l (l.length : Int) (i : Int) a r b m = some (b, m ++ (l.drop i).map (fun x => Int.tmod (wrap64 (x + s)) a), true) := by
  induction d with
  | zero =>
    intro i k m hi hm hk
    obtain ⟨k, rfl⟩ : ∃ m, k = m + 1 := ⟨k - 1, by omega⟩
    simp only [spec_SpinPole.l0]
    rw [if_neg (by omega), show i = l.length from by omega, List.drop_length]
    simp
  | succ d ih =>
    intro i k m hi hm hk
    obtain ⟨k, rfl⟩ : ∃ m, k = m + 1 := ⟨k - 1, by omega⟩
    simp only [spec_SpinPole.l0]
    rw [if_pos (by omega), if_pos (by omega), if_pos (by omega), if_neg ha, if_pos (by omega), wrap_id (by omega) (by omega), rd_nat l i (by omega)]
    have := ih (i + 1) k (m ++ [Int.tmod (wrap64 (l[i] + s)) a]) (by omega) (by simp; omega) (by omega)
    rw [List.drop_eq_getElem_cons (by omega), List.map_cons]
    rw [List.append_assoc, List.singleton_append] at this
    exact_mod_cast this
theorem core_SpinPole (a : Int) (l : List Int) (s : Int) (w : (Lit.int .i64 a).wf = true) (hb : l.length ≤ 35184372088832) (hw : ∀ x ∈ l, (Lit.int .i64 x).wf = true) (ws : (Lit.int .i64 s).wf = true) :
    ∃ K b m ok, m.length ≤ 35184372088832 ∧ (∀ k, K ≤ k → spec_SpinPole.f k a l s = some (b, m, ok)) ∧ (∀ k, K ≤ k → impl_SpinPole.f k a l s = some (b, m, ok)) := by
  by_cases h : isPole a l = true
  · obtain ⟨h1, h2, h3, h4⟩ := isPole_wires h
    by_cases hs : 0 ≤ s ∧ s ≤ a - 1
    · have mono : ∀ k, l.length + 1 ≤ k → spec_SpinPole.l0 k s l (l.length : Int) 0 a l a [] = some (a, l.map (fun x => Int.tmod (wrap64 (x + s)) a), true) := fun k hk => by
        have := spin_l0 s a l l a (by omega) h3 l.length 0 k [] (by omega) (by simp) (by omega)
        simpa using this
      refine ⟨l.length + 3, a, l.map (fun x => Int.tmod (wrap64 (x + s)) a), true, by simpa using hb, fun k hk => ?_, fun k hk => ?_⟩
      · obtain ⟨k, rfl⟩ : ∃ m, k = m + 1 := ⟨k - 1, by omega⟩
        unfold spec_SpinPole.f
        rw [poGood a l hb _ (by omega), Option.bind_some, if_pos h, l1In, Option.bind_some, wrap_id (by omega) (by omega), decide_eq_true hs]
        simp only [spec_SpinPole.j0, Bool.not_true]
        rw [if_neg (by decide)]
        exact mono k (by omega)
      · obtain ⟨k, rfl⟩ : ∃ m, k = m + 1 := ⟨k - 1, by omega⟩
        unfold impl_SpinPole.f
        rw [isPole_eq, Option.bind_some, if_pos h, between, Option.bind_some, wrap_id (by omega) (by omega), decide_eq_true hs]
        simp only [impl_SpinPole.j0, Bool.not_true]
        rw [if_neg (by decide), spin_same]
        exact mono k (by omega)
    · refine ⟨l.length + 3, 0, [], false, by simp, fun k hk => ?_, fun k hk => ?_⟩
      · obtain ⟨k, rfl⟩ : ∃ m, k = m + 1 := ⟨k - 1, by omega⟩
        unfold spec_SpinPole.f
        rw [poGood a l hb _ (by omega), Option.bind_some, if_pos h, l1In, Option.bind_some, wrap_id (by omega) (by omega), decide_eq_false hs]
        rfl
      · obtain ⟨k, rfl⟩ : ∃ m, k = m + 1 := ⟨k - 1, by omega⟩
        unfold impl_SpinPole.f
        rw [isPole_eq, Option.bind_some, if_pos h, between, Option.bind_some, wrap_id (by omega) (by omega), decide_eq_false hs]
        rfl
  · refine ⟨l.length + 3, 0, [], false, by simp, fun k hk => ?_, fun k hk => ?_⟩
    · obtain ⟨k, rfl⟩ : ∃ m, k = m + 1 := ⟨k - 1, by omega⟩
      unfold spec_SpinPole.f
      rw [poGood a l hb _ (by omega), Option.bind_some, if_neg h]
      rfl
    · obtain ⟨k, rfl⟩ : ∃ m, k = m + 1 := ⟨k - 1, by omega⟩
      unfold impl_SpinPole.f
      rw [isPole_eq, Option.bind_some, if_neg h]
      rfl
end Go.Proofs.Ytddfakhlncihoaa.L
