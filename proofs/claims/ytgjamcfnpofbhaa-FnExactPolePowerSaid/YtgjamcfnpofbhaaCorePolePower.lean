/- PolePower: the program's function and the reference's answer the same, for structs that fit into memory: an order comes home behind the least common multiple of its cycles' lengths, and its winds are nothing then exactly if no cycle winds. -/
import Derived.Test.YtgjamcfnpofbhaaLibPower
import Derived.Test.YtgjamcfnpofbhaaLibIsTurned
import Derived.Test.YtgjamcfnpofbhaaQx14
import Derived.Test.YtgjamcfnpofbhaaQx17
import Derived.Test.YtgjamcfnpofbhaaQx45
import Derived.Test.YtgjamcfnpofbhaaQx46
import Derived.Test.YtgjamcfnpofbhaaQx48
namespace Go.Proofs.Ytgjamcfnpofbhaa.L
open Go.RowKit Go.Proofs.Ytgjamcfnpofbhaa.Q Go.Proofs.YtgjamcfnpofbhaaW.PrintWords Go.Proofs.YtgjamcfnpofbhaaW.PrintLast
set_option linter.unusedVariables false
set_option linter.unusedSimpArgs false
/-- The winds behind m times. -/
def ww (p w : List Int) (m : Nat) : List Int := upto (fun j => wnd p w m j) p.length 0
theorem ww_length (p w : List Int) (m : Nat) : (ww p w m).length = p.length := upto_length _ _ _
theorem ww_get (p w : List Int) (m j : Nat) (h : j < p.length) : (ww p w m).getD j 0 = wnd p w m j := by
  unfold ww
  rw [upto_get _ _ _ _ h, Nat.zero_add]
theorem wnd_bound (p w : List Int) (hw : ∀ j, -20 ≤ w.getD j 0 ∧ w.getD j 0 ≤ 20) : ∀ (m i : Nat), -(20 * (m : Int)) ≤ wnd p w m i ∧ wnd p w m i ≤ 20 * (m : Int)
  | 0, i => by simp [wnd]
  | m + 1, i => by
    have h1 := hw i
    have h2 := wnd_bound p w hw m (stp p i)
    simp only [wnd]
    omega
theorem ww_one {p w : List Int} (h : w.length = p.length) : w = ww p w 1 := by
  refine (eq_upto w).trans ?_
  unfold ww
  rw [h]
  refine upto_congr _ _ fun j _ hj => ?_
  simp [wnd]
theorem ww_next {p : List Int} (hp : PermL p) (w : List Int) (m : Nat) : upto (fun j => (ww p w m).getD j 0 + w.getD ((pw p m).getD j 0).toNat 0) (pw p m).length 0 = ww p w (m + 1) := by
  rw [pw_length]
  refine upto_congr _ _ fun j _ hj => ?_
  rw [pw_get _ _ _ (by omega), ww_get _ _ _ _ (by omega), Int.toNat_natCast, wnd_succ]
theorem now_next {p w : List Int} (hp : PermL p) (hb : ∀ x ∈ p, 0 ≤ x ∧ x ≤ (p.length : Int) - 1) (h8 : p.length ≤ 8) (hl : w.length = p.length) (hw : ∀ j, -20 ≤ w.getD j 0 ∧ w.getD j 0 ≤ 20) (m : Nat) (h1 : 0 < m) (hm : m ≤ 20000000) (k : Nat) (hk : 20 ≤ k) : impl_thenTurned.f k (pw p m) (ww p w m) p w = some (pw p (m + 1), ww p w (m + 1)) := by
  rw [thn_at (pw p m) (ww p w m) p w (20 * (m : Int)) (fun j hj => pw_range hp m j (by rwa [pw_length] at hj)) (by rw [ww_length, pw_length]) hl (by omega) ?_ (fun j => by have := hw j; omega) (by rw [pw_length]; exact h8) k hk, pw_next hp hb, ww_next hp]
  intro j
  by_cases c : j < p.length
  · rw [ww_get _ _ _ _ c]; exact wnd_bound p w hw m j
  · rw [List.getD_eq_getElem?_getD, List.getElem?_eq_none (by rw [ww_length]; omega)]; simp; omega
theorem power_impl {p w : List Int} (hp : PermL p) (hb : ∀ x ∈ p, 0 ≤ x ∧ x ≤ (p.length : Int) - 1) (h8 : p.length ≤ 8) (hl : w.length = p.length) (hw : ∀ j, -20 ≤ w.getD j 0 ∧ w.getD j 0 ≤ 20) (L : Nat) (hL : L ≤ 20000000) (hF : ∀ j, j < p.length → itr p L j = j) : ∀ (d m k : Nat), m + d = L → 0 < m → d + 30 < k →
    impl_PolePower.l0 k (L : Int) ((L : Int) - 1) ((m : Int) - 1) p w (pw p m) (ww p w m) = some (if (∀ j, j < p.length → wnd p w L j = 0) then ((L : Int), true) else (0, false))
  | 0, m, k, h, h0, hk => by
    obtain ⟨k, rfl⟩ : ∃ q, k = q + 1 := ⟨k - 1, by omega⟩
    have e : m = L := by omega
    subst e
    simp only [impl_PolePower.l0]
    rw [if_neg (by omega)]
    unfold impl_isHome.f
    rw [pw_length, identN _ h8 k (by omega), Option.bind_some, home_iff h8 m k (by omega), Option.bind_some, decide_eq_true hF, if_pos rfl]
    unfold slices_ContainsFunc_int_int.f
    rw [Option.bind_some, Option.bind_some]
    by_cases c : ∀ j, j < p.length → wnd p w m j = 0
    · rw [if_pos c]
      have : ((ww p w m).any fun x => x != 0) = false := by
        rw [List.any_eq_false]
        intro x hx
        obtain ⟨j, hj, e⟩ := List.getElem_of_mem hx
        have := ww_get p w m j (by rwa [ww_length] at hj)
        rw [List.getD_eq_getElem?_getD, List.getElem?_eq_getElem hj] at this
        simp only [Option.getD_some] at this
        rw [← e, this, c j (by rwa [ww_length] at hj)]
        decide
      rw [this]; rfl
    · rw [if_neg c]
      have : ((ww p w m).any fun x => x != 0) = true := by
        rw [List.any_eq_true]
        refine Classical.byContradiction fun H => c fun j hj => Classical.byContradiction fun ne => H ⟨(ww p w m)[j]'(by rw [ww_length]; exact hj), List.getElem_mem _, ?_⟩
        have := ww_get p w m j hj
        rw [List.getD_eq_getElem?_getD, List.getElem?_eq_getElem (by rw [ww_length]; exact hj)] at this
        simp only [Option.getD_some] at this
        rw [this]
        simpa using ne
      rw [this]; rfl
  | d + 1, m, k, h, h0, hk => by
    obtain ⟨k, rfl⟩ : ∃ q, k = q + 1 := ⟨k - 1, by omega⟩
    simp only [impl_PolePower.l0]
    rw [if_pos (by omega), now_next hp hb h8 hl hw m h0 (by omega) k (by omega), Option.bind_some]
    have := power_impl hp hb h8 hl hw L hL hF d (m + 1) k (by omega) (by omega) (by omega)
    rw [wrap_id (by omega) (by omega), show (m : Int) - 1 + 1 = ((m + 1 : Nat) : Int) - 1 by omega]
    exact this
theorem core_PolePower (p w : List Int) (hb : p.length ≤ 35184372088832) (hp : ∀ x ∈ p, (Lit.int .i64 x).wf = true) (hc : w.length ≤ 35184372088832) (hw : ∀ x ∈ w, (Lit.int .i64 x).wf = true) :
    ∃ K a ok, (∀ k, K ≤ k → spec_PolePower.f k p w = some (a, ok)) ∧ (∀ k, K ≤ k → impl_PolePower.f k p w = some (a, ok)) := by
  by_cases h : isTur p w = true
  · obtain ⟨f1, f2, f3, f4, f5, f6, f7⟩ := isTur_facts h
    have hP := isOrd_perm f1
    have hW := getD_bound w 20 f6 (by omega)
    obtain ⟨C, e1, hC, hC8, hCc⟩ := laCycles p hP f3 f5 200 (by omega)
    have hpos : 0 < lcms C 1 := lcms_pos C 1 (by omega) (fun c hc => (hCc c hc).1)
    have hle : lcms C 1 ≤ 16777216 := by
      refine Nat.le_trans (lcms_bound C 1 (fun c hc => ⟨(hCc c hc).1, (hCc c hc).2.1⟩)) ?_
      rw [Nat.one_mul]
      refine Nat.le_trans (Nat.pow_le_pow_right (by omega) hC8) ?_
      decide
    have hF := hC.fix hP
    have hWi := hC.winds hP w
    have hS : ∀ k, w.length + 500 ≤ k → spec_PolePower.f k p w = some (if (∀ c ∈ C, cw w c = 0) then (((lcms C 1 : Nat) : Int), true) else (0, false)) := by
      intro k hk
      unfold spec_PolePower.f
      rw [poTurned p w hc k (by omega), Option.bind_some, if_pos h, at_rounds (fun k => spec_laCycles.mono _ k) (by omega : 200 ≤ k) e1, Option.bind_some]
      have := power_l0 p w C hC8 (fun c hc => ⟨(hCc c hc).1, (hCc c hc).2.1, fun x hx => by rw [f4]; exact (hCc c hc).2.2 x hx⟩) hW C.length 0 k 1 (by omega) (by omega) (by simp) (by omega)
      rw [List.drop_zero] at this
      exact this
    have hI : ∀ k, w.length + lcms C 1 + 500 ≤ k → impl_PolePower.f k p w = some (if (∀ j, j < p.length → wnd p w (lcms C 1) j = 0) then (((lcms C 1 : Nat) : Int), true) else (0, false)) := by
      intro k hk
      unfold impl_PolePower.f
      rw [isTurned p w hc k (by omega), Option.bind_some, if_pos h, orderTimes f1 (lcms C 1) hpos (by omega) hF k (by omega), Option.bind_some]
      simp only []
      rw [wrap_id (by omega) (by omega)]
      have := power_impl hP f5 f3 f4 hW (lcms C 1) (by omega) ((hF _).2 (Nat.dvd_refl _)) (lcms C 1 - 1) 1 k (by omega) (by omega) (by omega)
      rw [← pw_one f5, ← ww_one f4] at this
      exact this
    by_cases z : ∀ c ∈ C, cw w c = 0
    · refine ⟨w.length + lcms C 1 + 500, ((lcms C 1 : Nat) : Int), true, fun k hk => ?_, fun k hk => ?_⟩
      · rw [hS k (by omega), if_pos z]
      · rw [hI k (by omega), if_pos (hWi.2 z)]
    · refine ⟨w.length + lcms C 1 + 500, 0, false, fun k hk => ?_, fun k hk => ?_⟩
      · rw [hS k (by omega), if_neg z]
      · rw [hI k (by omega), if_neg (fun H => z (hWi.1 H))]
  · refine ⟨w.length + 500, 0, false, fun k hk => ?_, fun k hk => ?_⟩
    · unfold spec_PolePower.f
      rw [poTurned p w hc k (by omega), Option.bind_some, if_neg h]
    · unfold impl_PolePower.f
      rw [isTurned p w hc k (by omega), Option.bind_some, if_neg h]
end Go.Proofs.Ytgjamcfnpofbhaa.L
