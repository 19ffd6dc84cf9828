/- FnOrdersLikely: whatever bytes the arguments hold, the law answers true (its pure form). No condition. -/
import Derived.Test.YtabobnlpcapohaaLibOrdLike
import Derived.Test.YtabobnlpcapohaaLibOrdMean
import Derived.Test.YtabobnlpcapohaaLibPb
import Derived.Test.YtabobnlpcapohaaQm8
import Derived.Test.YtabobnlpcapohaaQm10
namespace Go.Proofs.Ytabobnlpcapohaa.L
open Go.RowKit Go.Proofs.Ytabobnlpcapohaa.Q Go.Proofs.YtabobnlpcapohaaW.PrintWords Go.Proofs.YtabobnlpcapohaaW.PrintLast
set_option linter.unusedVariables false
set_option linter.unusedSimpArgs false
theorem olN {n : Int} (h1 : -9000000000000000000 ≤ n) (h2 : n ≤ 9000000000000000000) : wrap64 n = n := by unfold wrap64; omega
theorem olWf {x : Int} (h1 : -1000 ≤ x) (h2 : x ≤ 1000) : (Lit.int .i64 x).wf = true := by
  rw [← olN (n := x) (by omega) (by omega)]; exact wrap64_wf _
theorem bb (b : Bool) : (b != b) = false := by cases b <;> rfl
def firstOk (t : Int) : Bool :=
  match impl_FirstAll.f t, spec_FirstAll.f 4000 t with
  | some (v, ok), some (v', ok') => decide (v = v' ∧ ok = ok' ∧ (ok = true → v = wrap64 ((wrap64 (Int.tdiv (wrap64 (t * (wrap64 (t - 1)))) 2)) - 1)))
  | _, _ => false
set_option maxHeartbeats 8000000 in
theorem first_all : ([2, 3, 4, 5, 1, 6, (-1)] : List Int).all firstOk = true := by decide +kernel
theorem first_at (t : Int) (h : t ∈ ([2, 3, 4, 5, 1, 6, (-1)] : List Int)) : ∃ v ok, impl_FirstAll.f t = some (v, ok) ∧ (∀ k, 4000 ≤ k → spec_FirstAll.f k t = some (v, ok)) ∧ (ok = true → v = wrap64 ((wrap64 (Int.tdiv (wrap64 (t * (wrap64 (t - 1)))) 2)) - 1)) := by
  have h1 := List.all_eq_true.1 first_all t h
  unfold firstOk at h1
  split at h1
  · rename_i v ok v' ok' e1 e2
    obtain ⟨rfl, rfl, h2⟩ := of_decide_eq_true h1
    exact ⟨v, ok, e1, fun k hk => at_rounds (fun k => spec_FirstAll.mono _ k) hk e2, h2⟩
  · exact absurd h1 (by simp)
theorem j6_ok {l : List Int} (hl : Code l) : ∃ M, ∀ k, M ≤ k → laws_FnOrdersLikely.j6 k l = some true := by
  obtain ⟨a, b, c, d, e1⟩ := drawMeet_ok hl
  obtain ⟨t, e2, ht⟩ := drawFirst_ok hl
  obtain ⟨M1, r, s, ok, g1, g2, g3⟩ := meet_case a b c d
  obtain ⟨v, ok2, f1, f2, f3⟩ := first_at t ht
  obtain ⟨M2, hj⟩ := j7_ok a b ok g3
  refine ⟨M1 + M2 + 4000 + 1, fun k hk => ?_⟩
  obtain ⟨k, rfl⟩ : ∃ m, k = m + 1 := ⟨k - 1, by omega⟩
  simp only [laws_FnOrdersLikely.j6]
  rw [e1, Option.bind_some]
  simp only []
  rw [g2 k (by omega), Option.bind_some, g1 k (by omega), Option.bind_some, e2, Option.bind_some, f1, Option.bind_some, f2 k (by omega), Option.bind_some]
  simp only [bb]
  rw [if_neg (by decide), if_neg (by simp), if_neg (by decide), if_pos trivial]
  cases ok2 with
  | false => rw [if_neg (by decide)]; exact hj k (by omega)
  | true =>
    rw [if_pos rfl, ← f3 rfl, bne_self_eq_false]
    exact hj k (by omega)
theorem l0_ok (l : List Int) (n : Nat) (hn : 2 ≤ n) (hn5 : n ≤ 5) (K made x y : Int) (h1 : 1 ≤ made) (h2 : made ≤ ([0, 0, 1, 3, 12, 60] : List Int).getD n 0) (hx : 0 ≤ x) (hy : x ≤ wrap64 (K * y)) (hj : ∃ M, ∀ k, M ≤ k → laws_FnOrdersLikely.j6 k l = some true) :
    ∃ M, ∀ k, M ≤ k → laws_FnOrdersLikely.l0 k l (n : Int) K made 1 3 x y = some true := by
  obtain ⟨M, hM⟩ := hj
  refine ⟨M + 10, fun k hk => ?_⟩
  obtain ⟨k, rfl⟩ : ∃ m, k = m + 1 + 1 + 1 + 1 := ⟨k - 4, by omega⟩
  rcases (by omega : n = 2 ∨ n = 3 ∨ n = 4 ∨ n = 5) with rfl | rfl | rfl | rfl
  all_goals
    simp at h2
    simp [laws_FnOrdersLikely.l0, wrap64]
    unfold wrap64 at hy
    exact ⟨by omega, by omega, by omega, by omega, hM _ (by omega)⟩
theorem j4_ok (l : List Int) (a0 a1 made x y : Int) (b : Bool) (hb : b = true → ∃ n : Nat, a0 = n ∧ 2 ≤ n ∧ n ≤ 5 ∧ 1 ≤ made ∧ made ≤ ([0, 0, 1, 3, 12, 60] : List Int).getD n 0 ∧ 0 ≤ x ∧ x ≤ wrap64 (a1 * y)) (hj : ∃ M, ∀ k, M ≤ k → laws_FnOrdersLikely.j6 k l = some true) :
    ∃ M, ∀ k, M ≤ k → laws_FnOrdersLikely.j4 k l a0 a1 b made false x y = some true := by
  cases b with
  | false =>
    obtain ⟨M, hM⟩ := hj
    refine ⟨M + 1, fun k hk => ?_⟩
    obtain ⟨k, rfl⟩ : ∃ m, k = m + 1 := ⟨k - 1, by omega⟩
    simp only [laws_FnOrdersLikely.j4]
    rw [if_neg (by decide), if_neg (by decide)]
    exact hM k (by omega)
  | true =>
    obtain ⟨n, rfl, h1, h2, h3, h4, h5, h6⟩ := hb rfl
    obtain ⟨M, hM⟩ := l0_ok l n h1 h2 a1 made x y h3 h4 h5 h6 hj
    refine ⟨M + 1, fun k hk => ?_⟩
    obtain ⟨k, rfl⟩ : ∃ m, k = m + 1 := ⟨k - 1, by omega⟩
    simp only [laws_FnOrdersLikely.j4]
    rw [if_neg (by decide), if_pos trivial]
    exact hM k (by omega)
def madeOk (n : Nat) (T : List Int) : Bool := decide (1 ≤ (((T.filter fun x => decide (0 < x)).length : Nat) : Int) ∧ (((T.filter fun x => decide (0 < x)).length : Nat) : Int) ≤ ([0, 0, 1, 3, 12, 60] : List Int).getD n 0)
theorem made2 : ∀ K ∈ List.range 21, madeOk 2 (tab2 K) = true := by decide +kernel
theorem made3 : ∀ K ∈ List.range 21, madeOk 3 (tab3 K) = true := by decide +kernel
theorem made4 : ∀ K ∈ List.range 21, madeOk 4 (tab4 K) = true := by decide +kernel
theorem made5 : ∀ K ∈ List.range 21, madeOk 5 (tab5 K) = true := by decide +kernel
theorem made_all {n : Nat} (h1 : 2 ≤ n) (h2 : n ≤ 5) (K : Nat) (hK : K ≤ 20) (T : List Int) (hT : spec_chOrders.f 25000 (n : Int) (K : Int) = some T) : madeOk n T = true := by
  have hk := List.mem_range.2 (show K < 21 by omega)
  rcases (by omega : n = 2 ∨ n = 3 ∨ n = 4 ∨ n = 5) with rfl | rfl | rfl | rfl
  · have := (ch2 K hK 25000 (by omega)).2; rw [Option.some.inj (hT.symm.trans this)]; exact made2 K hk
  · have := (ch3 K hK 25000 (by omega)).2; rw [Option.some.inj (hT.symm.trans this)]; exact made3 K hk
  · have := (ch4 K hK 25000 (by omega)).2; rw [Option.some.inj (hT.symm.trans this)]; exact made4 K hk
  · have := (ch5 K hK 25000 (by omega)).2; rw [Option.some.inj (hT.symm.trans this)]; exact made5 K hk
theorem nSame_nil (k : Nat) (hk : 60 ≤ k) : laws_nSame.f k [] [] = some true := at_rounds (fun k => laws_nSame.mono _ _ k) hk (show laws_nSame.f 60 [] [] = some true by decide +kernel)
theorem j3_ok {l : List Int} (hl : Code l) : ∃ M, ∀ k, M ≤ k → laws_FnOrdersLikely.j3 k l = some true := by
  obtain ⟨a0, a1, e0, r1, r2, r3, r4⟩ := drawMean_ok hl
  have w0 := olWf (x := a0) (by omega) (by omega)
  have w1 := olWf (x := a1) (by omega) (by omega)
  obtain ⟨b, hb⟩ := told_some a0 a1
  obtain ⟨M1, x, y, m1, m2, m3⟩ := mean_at a0 a1 b hb
  obtain ⟨M2, r, ok, c1, c2⟩ := core_CountOrdersMade a0 a1 w0 w1
  obtain ⟨M3, q, ok3, hq, d1, d2⟩ := core_LikeliestOrder a0 a1 w0 w1
  have hok : ok = b ∧ (b = true → ∃ n : Nat, a0 = n ∧ 2 ≤ n ∧ n ≤ 5 ∧ 1 ≤ r ∧ r ≤ ([0, 0, 1, 3, 12, 60] : List Int).getD n 0) := by
    have e := c1 (25000 + M2) (by omega)
    unfold spec_CountOrdersMade.f at e
    rw [told_same, hb, Option.bind_some] at e
    cases b with
    | false => rw [if_neg (by decide)] at e; simp at e; exact ⟨e.2, fun h => absurd h (by simp)⟩
    | true =>
      obtain ⟨t1, t2, t3, t4⟩ := told_true hb
      obtain ⟨n, rfl⟩ : ∃ n : Nat, a0 = n := ⟨a0.toNat, by omega⟩
      obtain ⟨K, rfl⟩ : ∃ n : Nat, a1 = n := ⟨a1.toNat, by omega⟩
      obtain ⟨O, T, F⟩ := facts n (by omega) (by omega)
      rw [if_pos rfl, (F.ch K (by omega) (25000 + M2) (by omega)).2, Option.bind_some, at_rounds (fun k => (spec_CountOrdersMade.mono_l k) _ _ _ _) (show 200 ≤ 25000 + M2 by omega) (F.cnt K (by omega))] at e
      simp only [Option.some.injEq, Prod.mk.injEq] at e
      have h := of_decide_eq_true (made_all (n := n) (by omega) (by omega) K (by omega) (T K) (F.ch K (by omega) 25000 (by omega)).2)
      rw [e.1] at h
      exact ⟨e.2.symm, fun _ => ⟨n, rfl, by omega, by omega, h.1, h.2⟩⟩
  have hok3 : ok3 = b ∧ ∀ k, 60 ≤ k → laws_nSame.f k q q = some true := by
    cases b with
    | false =>
      have e := d1 M3 (by omega)
      unfold spec_LikeliestOrder.f at e
      rw [told_same, hb, Option.bind_some, if_neg (by decide)] at e
      simp only [Option.some.injEq, Prod.mk.injEq] at e
      obtain ⟨rfl, rfl⟩ := e
      exact ⟨rfl, nSame_nil⟩
    | true =>
      obtain ⟨t1, t2, t3, t4⟩ := told_true hb
      obtain ⟨n, rfl⟩ : ∃ n : Nat, a0 = n := ⟨a0.toNat, by omega⟩
      obtain ⟨K, rfl⟩ : ∃ n : Nat, a1 = n := ⟨a1.toNat, by omega⟩
      obtain ⟨O, T, F⟩ := facts n (by omega) (by omega)
      obtain ⟨I, G⟩ := ordFacts F (by omega) (by omega)
      obtain ⟨m, _, hm, M4, h4⟩ := lk_at F (by omega) (by omega) K (by omega)
      have e := (d2 (M3 + M4) (by omega)).symm.trans (h4 (M3 + M4) (by omega))
      simp only [Option.some.injEq, Prod.mk.injEq] at e
      obtain ⟨rfl, rfl⟩ := e
      have h := G.ok m hm
      unfold ordOk at h
      simp only [Bool.and_eq_true, decide_eq_true_eq] at h
      exact ⟨rfl, fun k hk => at_rounds (fun k => laws_nSame.mono _ _ k) hk h.1.2⟩
  obtain ⟨rfl, hmade⟩ := hok
  obtain ⟨rfl, hsame⟩ := hok3
  obtain ⟨M5, h5⟩ := j4_ok l a0 a1 r x y ok3 (fun h => by obtain ⟨n, g1, g2, g3, g4, g5⟩ := hmade h; exact ⟨n, g1, g2, g3, g4, g5, m3 h⟩) (j6_ok hl)
  refine ⟨M1 + M2 + M3 + M5 + 60 + 1, fun k hk => ?_⟩
  obtain ⟨k, rfl⟩ : ∃ m, k = m + 1 := ⟨k - 1, by omega⟩
  simp only [laws_FnOrdersLikely.j3]
  rw [e0, Option.bind_some]
  simp only []
  rw [m2 k (by omega), Option.bind_some, m1 k (by omega), Option.bind_some, c2 k (by omega), Option.bind_some, c1 k (by omega), Option.bind_some, d2 k (by omega), Option.bind_some, d1 k (by omega), Option.bind_some]
  simp only [bb]
  rw [if_neg (by decide), if_neg (by simp), if_neg (by decide), if_pos trivial, if_neg (by decide), hsame k (by omega), Option.bind_some, if_pos rfl, if_neg (by decide)]
  exact h5 k (by omega)
theorem j2_ok {l : List Int} (hl : Code l) {n : Nat} {O : List (List Int)} {T : Nat → List Int} {I : List (Int × Int × Nat × Nat)} (F : MadeFacts n O T) (G : OrdFacts n O T I) (h1 : 2 ≤ n) (h2 : n ≤ 5) (K : Nat) (hK : K ≤ 20) (i : Nat) (hi : i < O.length) (hc : ∀ j, j < O.length → ∀ k, 25100 ≤ k → impl_CountForOrder.f k (n : Int) (K : Int) (O.getD j []) = some ((T K).getD j 0, true)) :
    ∃ M, ∀ k, M ≤ k → laws_FnOrdersLikely.j2 k l (n : Int) (K : Int) (O.getD i []) ((T K).getD i 0) false = some true := by
  obtain ⟨m, hm0, hm, M1, h4⟩ := lk_at F h1 h2 K hK
  obtain ⟨M2, h5⟩ := j3_ok hl
  have hn := List.all_eq_true.1 (G.num K hK) i (List.mem_range.2 hi)
  rw [hm0, Int.toNat_natCast] at hn
  unfold numOk at hn
  simp only [Bool.and_eq_true, decide_eq_true_eq] at hn
  obtain ⟨⟨_, hle⟩, hless⟩ := hn
  refine ⟨M1 + M2 + 25100 + 1, fun k hk => ?_⟩
  obtain ⟨k, rfl⟩ : ∃ x, k = x + 1 := ⟨k - 1, by omega⟩
  simp only [laws_FnOrdersLikely.j2]
  rw [if_neg (by decide), h4 k (by omega), Option.bind_some]
  simp only []
  rw [hc m hm k (by omega), Option.bind_some]
  simp only []
  rw [if_pos trivial, if_pos trivial, if_neg (by omega)]
  by_cases e : (T K).getD m 0 = (T K).getD i 0
  · rw [if_pos e, at_rounds (fun k => laws_nLess.mono _ _ k) (show 60 ≤ k by omega) (hless e.symm), Option.bind_some, if_neg (by decide)]
    exact h5 k (by omega)
  · rw [if_neg e]
    exact h5 k (by omega)
theorem j1_ok {l : List Int} (a0 a1 : Int) (p : List Int) (c v w : Int) (hv : 0 ≤ v ∧ v ≤ 100) (hk : 0 ≤ a1 ∧ a1 ≤ 20) (g1 : v > a1 → c = 0) (g2 : Int.tmod (v - a1) 2 ≠ 0 → c = 0) (g3 : v = a1 → c = w) (g4 : v < a1 → Int.tmod (a1 - v) 2 = 0 → 1 ≤ c) (hj : ∃ M, ∀ k, M ≤ k → laws_FnOrdersLikely.j2 k l a0 a1 p c false = some true) :
    ∃ M, ∀ k, M ≤ k → laws_FnOrdersLikely.j1 k l a0 a1 p c v w false = some true := by
  obtain ⟨M, hM⟩ := hj
  refine ⟨M + 1, fun k hk => ?_⟩
  obtain ⟨k, rfl⟩ : ∃ x, k = x + 1 := ⟨k - 1, by omega⟩
  have hf := hM k (by omega)
  simp only [laws_FnOrdersLikely.j1]
  rw [olN (n := v - a1) (by omega) (by omega), olN (n := a1 - v) (by omega) (by omega)]
  rw [if_neg (by decide)]
  have hd : v < a1 → Int.tmod (a1 - v) 2 = 0 → decide (c < 1) = false := fun h h' => decide_eq_false (by have := g4 h h'; omega)
  repeat' split
  all_goals first
    | exact hf
    | (rw [hd (by assumption) (by assumption)]; exact hf)
    | (exfalso; have := g1; have := g2; have := g3; omega)
    | (exfalso; rename_i e_; first | exact e_ (g1 (by omega)) | exact e_ (g3 (by omega)) | exact e_ (g2 (by assumption)))
theorem hcNot {n : Nat} {O : List (List Int)} {T : Nat → List Int} (F : MadeFacts n O T) (h1 : 2 ≤ n) (h2 : n ≤ 5) (K : Nat) (hK : K ≤ 20) (j : Nat) (hj : j < O.length) : ¬ impl_CountForOrder.f 100 (n : Int) (K : Int) (O.getD j []) = some (0, false) := by
  intro h
  obtain ⟨I, G⟩ := ordFacts F h1 h2
  have ho := G.ok j hj
  unfold ordOk at ho
  simp only [Bool.and_eq_true, decide_eq_true_eq] at ho
  have o2 := ho.1.1.1.1.2
  unfold impl_isCounted.f at o2
  obtain ⟨b, e1, e2⟩ := Option.bind_eq_some_iff.1 o2
  cases b with
  | false => exact absurd e2 (by simp)
  | true =>
    unfold impl_CountForOrder.f at h
    rw [isTold_in n (List.mem_range.2 (by omega)) h1 K (List.mem_range.2 (by omega)), Option.bind_some, if_pos rfl, at_rounds (fun k => impl_isOrder.mono _ k) (show 60 ≤ 100 by omega) e1, Option.bind_some, if_pos rfl, if_pos (by rw [F.len j hj])] at h
    obtain ⟨ids, _, h⟩ := Option.bind_eq_some_iff.1 h
    obtain ⟨q0, _, h⟩ := Option.bind_eq_some_iff.1 h
    obtain ⟨q, _, h⟩ := Option.bind_eq_some_iff.1 h
    split at h <;> simp at h
theorem j0_ok {l : List Int} (hl : Code l) {n : Nat} {O : List (List Int)} {T : Nat → List Int} (F : MadeFacts n O T) (h1 : 2 ≤ n) (h2 : n ≤ 5) (K : Nat) (hK : K ≤ 20) (i : Nat) (hi : i < O.length) (hc : ∀ j, j < O.length → ∀ k, 25100 ≤ k → impl_CountForOrder.f k (n : Int) (K : Int) (O.getD j []) = some ((T K).getD j 0, true)) (r s : Int) (hr : ∃ k u, impl_power.f k (wrap64 ((n : Int) - 1)) (K : Int) = some u ∧ impl_ratio.f k ((T K).getD i 0) u = some (r, s)) :
    ∃ M, ∀ k, M ≤ k → laws_FnOrdersLikely.j0 k l (n : Int) (K : Int) (O.getD i []) ((T K).getD i 0) true false r s = some true := by
  obtain ⟨I, G⟩ := ordFacts F h1 h2
  have ho := G.ok i hi
  unfold ordOk at ho
  simp only [Bool.and_eq_true, decide_eq_true_eq] at ho
  obtain ⟨⟨⟨⟨⟨o1, o2⟩, o3⟩, o4⟩, o5⟩, o6⟩ := ho
  have hn := List.all_eq_true.1 (G.num K hK) i (List.mem_range.2 hi)
  unfold numOk at hn
  simp only [Bool.and_eq_true, decide_eq_true_eq] at hn
  obtain ⟨⟨⟨⟨⟨⟨q0, q1⟩, q2⟩, q3⟩, q4⟩, _⟩, _⟩ := hn
  have hp : ∀ j, j < O.length → 0 ≤ (infI I j).1 := fun j hj => by
    have h := G.ok j hj
    unfold ordOk at h
    simp only [Bool.and_eq_true, decide_eq_true_eq] at h
    exact h.2.1
  have hct := ct_all G.loc hp 100 i hi (by omega)
  have hln := G.loc i hi
  unfold locOk at hln
  rw [Bool.and_eq_true] at hln
  have hcn := of_decide_eq_true hln.2
  have hcl : ∀ k, 200 ≤ k → impl_CountLeast.f k (O.getD i []) = some ((infI I i).2.1, true) := fun k hk => by
    unfold impl_CountLeast.f
    rw [at_rounds (fun k => impl_isCounted.mono _ k) (show 60 ≤ k by omega) o2, Option.bind_some, if_pos rfl, ctF_le (show 20 + 100 + 1 ≤ k by omega) _ hct, Option.bind_some]
    exact if_pos hcn
  have hlad := G.lad K hK
  have hmem : (T K).getD i 0 ∈ T K := by
    have hlen : i < (T K).length := by rw [F.size K hK]; exact hi
    rw [List.getD_eq_getElem?_getD, List.getElem?_eq_getElem hlen]
    exact List.getElem_mem hlen
  obtain ⟨t, e1, e2⟩ : ∃ t, impl_CountLadders.f 200 (n : Int) (K : Int) = some (t, true) ∧ s ≠ 0 ∧ wrap64 (r * wrap64 (Int.tdiv t s)) = (T K).getD i 0 := by
    unfold ladOk at hlad
    split at hlad
    · rename_i t e1
      have hx := List.all_eq_true.1 hlad _ hmem
      split at hx
      · rename_i r' s' e3
        obtain ⟨u', e4, e5⟩ := Option.bind_eq_some_iff.1 e3
        obtain ⟨k, u, f1, f2⟩ := hr
        have a1 := at_rounds (fun k => impl_power.mono _ _ k) (show k ≤ k + 200 by omega) f1
        have a2 := at_rounds (fun k => impl_power.mono _ _ k) (show 200 ≤ k + 200 by omega) e4
        obtain rfl := Option.some.inj (a1.symm.trans a2)
        have b1 := at_rounds (fun k => impl_ratio.mono _ _ k) (show k ≤ k + 200 by omega) f2
        have b2 := at_rounds (fun k => impl_ratio.mono _ _ k) (show 200 ≤ k + 200 by omega) e5
        obtain ⟨rfl, rfl⟩ := Prod.mk.inj (Option.some.inj (b1.symm.trans b2))
        exact ⟨t, e1, of_decide_eq_true hx⟩
      · exact absurd hx (by simp)
    · exact absurd hlad (by simp)
  obtain ⟨M, hM⟩ := j1_ok (l := l) (n : Int) (K : Int) (O.getD i []) ((T K).getD i 0) (infI I i).1 (infI I i).2.1 o6 (by omega) q1 q2 q3 q4 (j2_ok hl F G h1 h2 K hK i hi hc)
  refine ⟨M + 25100 + 1, fun k hk => ?_⟩
  obtain ⟨k, rfl⟩ : ∃ x, k = x + 1 := ⟨k - 1, by omega⟩
  simp only [laws_FnOrdersLikely.j0]
  rw [if_neg (by decide), if_pos trivial, at_rounds (fun k => impl_CountLadders.mono _ _ k) (show 200 ≤ k by omega) e1, Option.bind_some, at_rounds (fun k => impl_InversionsOf.mono _ k) (show 60 ≤ k by omega) o1, Option.bind_some, hcl k (by omega), Option.bind_some, at_rounds (fun k => impl_BackOrder.mono _ k) (show 60 ≤ k by omega) o3, Option.bind_some]
  simp only []
  rw [hc _ o4 k (by omega), Option.bind_some]
  simp only []
  rw [if_pos trivial, if_neg e2.1, if_pos e2.2, if_pos trivial, if_pos trivial, if_pos trivial, if_pos trivial, q0, bne_self_eq_false]
  exact hM k (by omega)
end Go.Proofs.Ytabobnlpcapohaa.L
namespace Go.Proofs.Ytabobnlpcapohaa.Pure
open Go.RowKit Go.Proofs.Ytabobnlpcapohaa.Q Go.Proofs.YtabobnlpcapohaaW.PrintWords Go.Proofs.YtabobnlpcapohaaW.PrintLast Go.Proofs.Ytabobnlpcapohaa.L
theorem FnOrdersLikely (l0 : List Int) (l1 : List Int) (hl0 : l0.length ≤ 9223372036854775807) (hw0 : ∀ x ∈ l0, (Lit.int .u8 x).wf = true) (hl1 : l1.length ≤ 9223372036854775807) (hw1 : ∀ x ∈ l1, (Lit.int .u8 x).wf = true) : ∃ k, laws_FnOrdersLikely.f k l0 l1 = some true := by
  rcases big_cases l0 l1 hl0 hl1 with hb | ⟨hb, g0, g1⟩
  · refine ⟨0, ?_⟩
    unfold laws_FnOrdersLikely.f
    rw [hb]; rfl
  · have c0 := code_of hw0 (by omega)
    have c1 := code_of hw1 (by omega)
    obtain ⟨a0, a1, p, e, hp⟩ := drawOrder_ok c0
    have e' : ∀ k, 201 ≤ k → spec_DrawCountForOrder.f k l0 = some (a0, a1, p) := fun k hk => at_rounds (fun k => spec_DrawCountForOrder.mono _ k) hk e
    rcases count_at a0 a1 p (by omega) with ⟨h1, h2⟩ | ⟨n, K, i, O, T, rfl, rfl, n1, n2, hK, F, hi, rfl, h1, h2⟩
    · obtain ⟨M, hM⟩ := j3_ok c1
      refine ⟨M + 301 + 1, ?_⟩
      unfold laws_FnOrdersLikely.f
      have i1 : impl_ChanceOfOrder.f (M + 301 + 1) a0 a1 p = some (0, 0, false) := by unfold impl_ChanceOfOrder.f; rw [h2 _ (by omega)]; rfl
      have i2 : spec_ChanceOfOrder.f (M + 301 + 1) a0 a1 p = some (0, 0, false) := by unfold spec_ChanceOfOrder.f; rw [h1 _ (by omega)]; rfl
      rw [hb, Option.bind_some, if_neg (by decide), e' _ (by omega), Option.bind_some, h2 _ (by omega), Option.bind_some, h1 _ (by omega), Option.bind_some, i1, Option.bind_some, i2, Option.bind_some]
      simp only [bb]
      rw [if_neg (by decide), if_pos trivial, if_neg (by decide), if_neg (by simp)]
      simp only [laws_FnOrdersLikely.j0]
      rw [if_neg (by decide), if_neg (by decide)]
      exact hM _ (by omega)
    · have hc : ∀ j, j < O.length → ∀ k, 25100 ≤ k → impl_CountForOrder.f k (n : Int) (K : Int) (O.getD j []) = some ((T K).getD j 0, true) := by
        intro j hj k hk
        have hq := F.ch K hK k (by omega)
        rcases count_at (n : Int) (K : Int) (O.getD j []) (by rw [F.len j hj]; omega) with ⟨_, y2⟩ | ⟨n', K', i', O', T', z1, z2, _, _, _, F', hi', z3, _, y2⟩
        · exact absurd (y2 100 (by omega)) (hcNot F n1 n2 K hK j hj)
        · obtain rfl : n = n' := by omega
          obtain rfl : K = K' := by omega
          have hq' := F'.ch K hK k (by omega)
          obtain rfl := Option.some.inj (hq.1.symm.trans hq'.1)
          have hT := Option.some.inj (hq.2.symm.trans hq'.2)
          have r1 := F.rank j hj
          rw [z3, F'.rank i' hi'] at r1
          have r2 := Option.some.inj r1
          obtain rfl : i' = j := by omega
          rw [y2 k hk, hT]
      have hT := tab_one F n1 n2 K hK
      have hm : (T K).getD i 0 ∈ T K := by
        have hl : i < (T K).length := by rw [F.size K hK]; exact hi
        rw [List.getD_eq_getElem?_getD, List.getElem?_eq_getElem hl]
        exact List.getElem_mem hl
      obtain ⟨e1, e2⟩ := of_decide_eq_true (List.all_eq_true.1 hT _ hm)
      obtain ⟨⟨r, s⟩, e3⟩ := Option.isSome_iff_exists.1 e2
      rw [e3] at e1
      obtain ⟨t, f1, f2⟩ := Option.bind_eq_some_iff.1 e3
      obtain ⟨u, y1, y2⟩ := Option.bind_eq_some_iff.1 e1.symm
      obtain ⟨M, hM⟩ := j0_ok c1 F n1 n2 K hK i hi hc r s ⟨200, u, y1, y2⟩
      refine ⟨M + 25100, ?_⟩
      have i1 : impl_ChanceOfOrder.f (M + 25100) (n : Int) (K : Int) (O.getD i []) = some (r, s, true) := by
        unfold impl_ChanceOfOrder.f
        rw [h2 _ (by omega), Option.bind_some]
        simp only []
        rw [if_pos trivial, at_rounds (fun k => impl_power.mono _ _ k) (show 200 ≤ M + 25100 by omega) y1, Option.bind_some, at_rounds (fun k => impl_ratio.mono _ _ k) (show 200 ≤ M + 25100 by omega) y2]
        rfl
      have i2 : spec_ChanceOfOrder.f (M + 25100) (n : Int) (K : Int) (O.getD i []) = some (r, s, true) := by
        unfold spec_ChanceOfOrder.f
        rw [h1 _ (by omega), Option.bind_some]
        simp only []
        rw [if_pos trivial, at_rounds (fun k => spec_chAll.mono _ _ k) (show 200 ≤ M + 25100 by omega) f1, Option.bind_some, at_rounds (fun k => spec_chRatio.mono _ _ k) (show 200 ≤ M + 25100 by omega) f2]
        rfl
      unfold laws_FnOrdersLikely.f
      rw [hb, Option.bind_some, if_neg (by decide), e' _ (by omega), Option.bind_some, h2 _ (by omega), Option.bind_some, h1 _ (by omega), Option.bind_some, i1, Option.bind_some, i2, Option.bind_some]
      simp only [bb]
      rw [if_neg (by decide), if_pos trivial, if_neg (by decide), if_neg (by simp)]
      exact hM _ (by omega)
end Go.Proofs.Ytabobnlpcapohaa.Pure
