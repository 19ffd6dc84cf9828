/- BackTurned: the program's function and the reference's answer the same, for structs that fit into memory. -/
import Derived.Test.YtddfakhlncihoaaLibIsTurned
import Derived.Test.YtddfakhlncihoaaQx35
import Derived.Test.YtddfakhlncihoaaQx36
import Derived.Test.YtddfakhlncihoaaQx37
namespace Go.Proofs.Ytddfakhlncihoaa.L
open Go.RowKit Go.Proofs.Ytddfakhlncihoaa.Q Go.Proofs.YtddfakhlncihoaaW.PrintWords Go.Proofs.YtddfakhlncihoaaW.PrintLast
set_option linter.unusedVariables false
set_option linter.unusedSimpArgs false
/-- Each index is laid at the place that the list names. -/
def backE : List Int → Nat → List Int → List Int
  | [], _, acc => acc
  | x :: xs, i, acc => backE xs (i + 1) (acc.set x.toNat (i : Int))
/-- Each wind, turned round, is laid at the place that the list names. -/
def backW (w : List Int) : List Int → Nat → List Int → List Int
  | [], _, acc => acc
  | x :: xs, i, acc => backW w xs (i + 1) (acc.set x.toNat (wrap64 (-(rd w (i : Int)))))
theorem backE_length : ∀ (l : List Int) (i : Nat) (acc : List Int), (backE l i acc).length = acc.length
  | [], _, _ => rfl
  | x :: xs, i, acc => by rw [backE, backE_length xs]; simp
theorem backW_length (w : List Int) : ∀ (l : List Int) (i : Nat) (acc : List Int), (backW w l i acc).length = acc.length
  | [], _, _ => rfl
  | x :: xs, i, acc => by rw [backW, backW_length w xs]; simp
theorem back_l0 (p : List Int) (hb : p.length ≤ 8) (hp : ∀ x ∈ p, 0 ≤ x ∧ x ≤ (p.length : Int) - 1) (d : Nat) : ∀ (i k : Nat) (acc : List Int), i + d = p.length → acc.length = p.length → d < k → impl_back.l0 k acc p (p.length : Int) (i : Int) = some (backE (p.drop i) i acc) := by
  induction d with
  | zero =>
    intro i k acc hi ha hk
    obtain ⟨k, rfl⟩ : ∃ m, k = m + 1 := ⟨k - 1, by omega⟩
    simp only [impl_back.l0]
    rw [if_neg (by omega), show i = p.length from by omega, List.drop_length]
    rfl
  | succ d ih =>
    intro i k acc hi ha hk
    obtain ⟨k, rfl⟩ : ∃ m, k = m + 1 := ⟨k - 1, by omega⟩
    have hx := hp p[i] (List.getElem_mem _)
    simp only [impl_back.l0]
    rw [if_pos (by omega), if_pos (by omega), if_pos (by omega), rd_nat p i (by omega), if_pos (by omega), if_pos (by omega), wrap_id (by omega) (by omega), List.drop_eq_getElem_cons (by omega)]
    have := ih (i + 1) k (acc.set p[i].toNat (i : Int)) (by omega) (by simpa using ha) (by omega)
    exact_mod_cast this
theorem backS_l0 (p w : List Int) (hb : p.length ≤ 8) (hw : w.length = p.length) (hp : ∀ x ∈ p, 0 ≤ x ∧ x ≤ (p.length : Int) - 1) (q : List Int) (d : Nat) : ∀ (i k : Nat) (a b : List Int), i + d = p.length → a.length = p.length → b.length = p.length → d < k → spec_BackTurned.l0 k p (p.length : Int) (i : Int) q w a b = some (backE (p.drop i) i a, backW w (p.drop i) i b, true) := by
  induction d with
  | zero =>
    intro i k a b hi ha hb' hk
    obtain ⟨k, rfl⟩ : ∃ m, k = m + 1 := ⟨k - 1, by omega⟩
    simp only [spec_BackTurned.l0]
    rw [if_neg (by omega), show i = p.length from by omega, List.drop_length]
    rfl
  | succ d ih =>
    intro i k a b hi ha hb' hk
    obtain ⟨k, rfl⟩ : ∃ m, k = m + 1 := ⟨k - 1, by omega⟩
    have hx := hp p[i] (List.getElem_mem _)
    simp only [spec_BackTurned.l0]
    rw [if_pos (by omega), if_pos (by omega), if_pos (by omega), rd_nat p i (by omega), if_pos (by omega), if_pos (by omega), if_pos (by omega), if_pos (by omega), wrap_id (n := (i : Int) + 1) (by omega) (by omega), List.drop_eq_getElem_cons (by omega)]
    have := ih (i + 1) k (a.set p[i].toNat (i : Int)) (b.set p[i].toNat (wrap64 (-(rd w (i : Int))))) (by omega) (by simpa using ha) (by simpa using hb') (by omega)
    exact_mod_cast this
theorem backI_l0 (p w : List Int) (hb : p.length ≤ 8) (hw : w.length = p.length) (hp : ∀ x ∈ p, 0 ≤ x ∧ x ≤ (p.length : Int) - 1) (q a : List Int) (d : Nat) : ∀ (i k : Nat) (b : List Int), i + d = p.length → b.length = p.length → d < k → impl_BackTurned.l0 k p (p.length : Int) (i : Int) q w a b = some (a, backW w (p.drop i) i b, true) := by
  induction d with
  | zero =>
    intro i k b hi hb' hk
    obtain ⟨k, rfl⟩ : ∃ m, k = m + 1 := ⟨k - 1, by omega⟩
    simp only [impl_BackTurned.l0]
    rw [if_neg (by omega), show i = p.length from by omega, List.drop_length]
    rfl
  | succ d ih =>
    intro i k b hi hb' hk
    obtain ⟨k, rfl⟩ : ∃ m, k = m + 1 := ⟨k - 1, by omega⟩
    have hx := hp p[i] (List.getElem_mem _)
    simp only [impl_BackTurned.l0]
    rw [if_pos (by omega), if_pos (by omega), if_pos (by omega), if_pos (by omega), rd_nat p i (by omega), if_pos (by omega), if_pos (by omega), wrap_id (n := (i : Int) + 1) (by omega) (by omega), List.drop_eq_getElem_cons (by omega)]
    have := ih (i + 1) k (b.set p[i].toNat (wrap64 (-(rd w (i : Int))))) (by omega) (by simpa using hb') (by omega)
    exact_mod_cast this
theorem back (p : List Int) (h : isOrd p = true) (k : Nat) (hk : p.length + 1 ≤ k) : impl_back.f k p = some (backE p 0 (List.replicate p.length 0)) := by
  obtain ⟨h1, h2, h3⟩ := isOrd_facts h
  unfold impl_back.f
  rw [if_pos (by omega), if_pos (by omega)]
  have := back_l0 p h2 h3 p.length 0 k (List.replicate p.length 0) (by omega) (by simp) (by omega)
  simpa using this
theorem core_BackTurned (p w : List Int) (hb : p.length ≤ 35184372088832) (hp : ∀ x ∈ p, (Lit.int .i64 x).wf = true) (hc : w.length ≤ 35184372088832) (hw : ∀ x ∈ w, (Lit.int .i64 x).wf = true) :
    ∃ K r s ok, r.length ≤ 17592186044416 ∧ s.length ≤ 17592186044416 ∧ (∀ k, K ≤ k → spec_BackTurned.f k p w = some (r, s, ok)) ∧ (∀ k, K ≤ k → impl_BackTurned.f k p w = some (r, s, ok)) := by
  by_cases h : isTur p w = true
  · obtain ⟨f1, f2, f3, f4, f5, f6, f7⟩ := isTur_facts h
    refine ⟨w.length + 30, backE p 0 (List.replicate p.length 0), backW w p 0 (List.replicate p.length 0), true, by rw [backE_length]; simp; omega, by rw [backW_length]; simp; omega, fun k hk => ?_, fun k hk => ?_⟩
    · unfold spec_BackTurned.f
      rw [poTurned p w hc k (by omega), Option.bind_some, if_pos h, if_pos (by omega), if_pos (by omega)]
      have := backS_l0 p w f3 f4 f5 p p.length 0 k (List.replicate p.length 0) (List.replicate p.length 0) (by omega) (by simp) (by simp) (by omega)
      simpa using this
    · unfold impl_BackTurned.f
      rw [isTurned p w hc k (by omega), Option.bind_some, if_pos h, back p f1 k (by omega), Option.bind_some, if_pos (by omega), if_pos (by omega)]
      have := backI_l0 p w f3 f4 f5 p (backE p 0 (List.replicate p.length 0)) p.length 0 k (List.replicate p.length 0) (by omega) (by simp) (by omega)
      simpa using this
  · refine ⟨w.length + 30, [], [], false, by simp, by simp, fun k hk => ?_, fun k hk => ?_⟩
    · unfold spec_BackTurned.f
      rw [poTurned p w hc k (by omega), Option.bind_some, if_neg h]
    · unfold impl_BackTurned.f
      rw [isTurned p w hc k (by omega), Option.bind_some, if_neg h]
end Go.Proofs.Ytddfakhlncihoaa.L
