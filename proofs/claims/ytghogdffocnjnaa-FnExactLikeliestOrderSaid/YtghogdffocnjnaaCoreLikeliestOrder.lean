/- LikeliestOrder: the program's function and the reference's answer the same, for all whole numbers of int. -/
import Derived.Test.YtghogdffocnjnaaCoreCountOrdersMade
import Derived.Test.YtghogdffocnjnaaQx28
import Derived.Test.YtghogdffocnjnaaQx34
import Derived.Test.YtghogdffocnjnaaQx50
namespace Go.Proofs.Ytghogdffocnjnaa.L
open Go.RowKit Go.Proofs.Ytghogdffocnjnaa.Q Go.Proofs.YtghogdffocnjnaaW.PrintWords Go.Proofs.YtghogdffocnjnaaW.PrintLast
set_option linter.unusedVariables false
set_option linter.unusedSimpArgs false
def lkFold {α : Type} (step : α → List Int → Option α) : List (List Int) → α → Option α
  | [], s => some s
  | u :: us, s => (step s u).bind fun s2 => lkFold step us s2
theorem lkFold_app {α : Type} (step : α → List Int → Option α) : ∀ (a b : List (List Int)) (s : α), lkFold step (a ++ b) s = (lkFold step a s).bind fun s2 => lkFold step b s2
  | [], b, s => rfl
  | u :: a, b, s => by
    show (step s u).bind (fun s2 => lkFold step (a ++ b) s2) = ((step s u).bind fun s2 => lkFold step a s2).bind fun s2 => lkFold step b s2
    cases step s u with
    | none => rfl
    | some s2 => exact lkFold_app step a b s2
def lkLoop (rec : List Int → List Int → List (List Int)) (done left : List Int) : Nat → Nat → List (List Int)
  | 0, _ => []
  | c + 1, i => rec (done ++ [left.getD i 0]) (left.take i ++ left.drop (i + 1)) ++ lkLoop rec done left c (i + 1)
def lkOrds : Nat → List Int → List Int → List (List Int)
  | 0, done, _ => [done]
  | d + 1, done, left => lkLoop (lkOrds d) done left (d + 1) 0
theorem lk_fold {α : Type} (step : α → List Int → Option α) : ∀ (d : Nat) (done left : List Int) (s : α), left.length = d → done.length + left.length ≤ 100 → ordF step d done left s = lkFold step (lkOrds d done left) s
  | 0, done, left, s, hl, hd => by
    rw [ordF, if_pos (List.eq_nil_of_length_eq_zero hl), lkOrds, lkFold]
    cases step s done <;> rfl
  | d + 1, done, left, s, hl, hd => by
    rw [ordF, if_pos ⟨hl, by omega, by omega⟩, lkOrds]
    have hloop : ∀ (c i : Nat) (s : α), i + c = d + 1 → ordLoop (ordF step d) done left c i s = lkFold step (lkLoop (lkOrds d) done left c i) s := by
      intro c
      induction c with
      | zero => intro i s hi; rfl
      | succ c ih =>
        intro i s hi
        have e := lk_fold step d (done ++ [left.getD i 0]) (left.take i ++ left.drop (i + 1)) s (by simp; omega) (by simp; omega)
        rw [ordLoop, lkLoop, lkFold_app, e]
        congr 1
        funext s2
        exact ih (i + 1) s2 (by omega)
    exact hloop (d + 1) 0 s (by omega)
/-- The greatest count's first index. -/
def argm (T : List Int) : Nat → Int → Int → Int
  | 0, _, b => b
  | d + 1, i, b => argm T d (i + 1) (if rd T i > rd T b then i else b)
theorem lk_l0 (n : Int) (T : List Int) (hb : T.length ≤ 1000) : ∀ (d i b k : Nat), i + d = T.length → b < T.length → ∃ c : Nat, argm T d (i : Int) (b : Int) = c ∧ c < T.length ∧ spec_LikeliestOrder.l0 (k + d + 1) n T (b : Int) T (T.length : Int) (i : Int) = (spec_alOrders.f k n).bind fun t => if 0 ≤ (c : Int) then (if (c : Int) < (t.length : Int) then some (rd_L1 t (c : Int), true) else none) else none
  | 0, i, b, k, hi, hbl => by
    refine ⟨b, rfl, hbl, ?_⟩
    simp only [Nat.add_zero, spec_LikeliestOrder.l0]
    rw [if_neg (by omega)]
  | d + 1, i, b, k, hi, hbl => by
    obtain ⟨m, hm⟩ : ∃ m, m = k + d + 1 := ⟨_, rfl⟩
    rw [show k + (d + 1) + 1 = m + 1 by omega]
    simp only [spec_LikeliestOrder.l0, argm]
    by_cases h : rd T (i : Int) > rd T (b : Int)
    · rw [if_pos h, if_pos (by omega), if_pos (by omega), if_pos (by omega), if_pos (by omega), if_pos (by omega), if_pos h, show wrap64 ((i : Int) + 1) = ((i + 1 : Nat) : Int) by unfold wrap64; omega]
      have := lk_l0 n T hb d (i + 1) i k (by omega) (by omega)
      rw [← hm] at this
      exact_mod_cast this
    · rw [if_neg h, if_pos (by omega), if_pos (by omega), if_pos (by omega), if_pos (by omega), if_pos (by omega), if_neg h, show wrap64 ((i : Int) + 1) = ((i + 1 : Nat) : Int) by unfold wrap64; omega]
      have := lk_l0 n T hb d (i + 1) b k (by omega) hbl
      rw [← hm] at this
      exact_mod_cast this
def lkPick : List (List Int) → List Int → List Int × Int → List Int × Int
  | u :: us, c :: cs, s => lkPick us cs (if s.2 < c then (u, c) else s)
  | _, _, s => s
theorem lk_pick (step : List Int × Int → List Int → Option (List Int × Int)) : ∀ (A : List (List Int)) (B : List Int) (s : List Int × Int), A.length = B.length → (∀ i, i < A.length → ∀ s, step s (A.getD i []) = some (if s.2 < B.getD i 0 then (A.getD i [], B.getD i 0) else s)) → lkFold step A s = some (lkPick A B s)
  | [], [], s, _, _ => rfl
  | [], _ :: _, s, e, _ => by simp at e
  | _ :: _, [], s, e, _ => by simp at e
  | a :: A, b :: B, s, e, hi => by
    have h0 := hi 0 (by simp) s
    simp only [List.getD_cons_zero] at h0
    rw [lkFold, h0, Option.bind_some, lkPick]
    exact lk_pick step A B _ (by simpa using e) (fun i hl => by have := hi (i + 1) (by simpa using hl); simpa using this)
def lkOk (O : List (List Int)) (T : List Int) : Bool := decide ((lkPick O T ([], 0)).1 = O.getD (argm T T.length 0 0).toNat [])
theorem lk2 : ∀ k ∈ List.range 21, lkOk ordL2 (tab2 k) = true := by decide +kernel
theorem lk3 : ∀ k ∈ List.range 21, lkOk ordL3 (tab3 k) = true := by decide +kernel
theorem lk4 : ∀ k ∈ List.range 21, lkOk ordL4 (tab4 k) = true := by decide +kernel
theorem lk5 : ∀ k ∈ List.range 21, lkOk ordL5 (tab5 k) = true := by decide +kernel
theorem ords2 : lkOrds 2 [] (ordL2.getD 0 []) = ordL2 := by decide +kernel
theorem ords3 : lkOrds 3 [] (ordL3.getD 0 []) = ordL3 := by decide +kernel
theorem ords4 : lkOrds 4 [] (ordL4.getD 0 []) = ordL4 := by decide +kernel
theorem ords5 : lkOrds 5 [] (ordL5.getD 0 []) = ordL5 := by decide +kernel
theorem lk_all {n : Nat} {O : List (List Int)} {T : Nat → List Int} (F : MadeFacts n O T) (h1 : 2 ≤ n) (h2 : n ≤ 5) (k : Nat) (hk : k ≤ 20) : lkOk O (T k) = true ∧ lkOrds n [] (O.getD 0 []) = O := by
  have e : ∀ {O' : List (List Int)} {T' : Nat → List Int}, MadeFacts n O' T' → O = O' ∧ T k = T' k := fun F' => by
    obtain ⟨a, b⟩ := F.ch k hk 25000 (Nat.le_refl _)
    obtain ⟨c, d⟩ := F'.ch k hk 25000 (Nat.le_refl _)
    exact ⟨Option.some.inj (a.symm.trans c), Option.some.inj (b.symm.trans d)⟩
  rcases (by omega : n = 2 ∨ n = 3 ∨ n = 4 ∨ n = 5) with rfl | rfl | rfl | rfl
  · rw [(e facts2).1, (e facts2).2]; exact ⟨lk2 k (List.mem_range.2 (by omega)), ords2⟩
  · rw [(e facts3).1, (e facts3).2]; exact ⟨lk3 k (List.mem_range.2 (by omega)), ords3⟩
  · rw [(e facts4).1, (e facts4).2]; exact ⟨lk4 k (List.mem_range.2 (by omega)), ords4⟩
  · rw [(e facts5).1, (e facts5).2]; exact ⟨lk5 k (List.mem_range.2 (by omega)), ords5⟩
theorem core_LikeliestOrder (a0 a1 : Int) (w0 : (Lit.int .i64 a0).wf = true) (w1 : (Lit.int .i64 a1).wf = true) :
    ∃ K r ok, r.length ≤ 35184372088832 ∧ (∀ k, K ≤ k → spec_LikeliestOrder.f k a0 a1 = some (r, ok)) ∧ (∀ k, K ≤ k → impl_LikeliestOrder.f k a0 a1 = some (r, ok)) := by
  obtain ⟨b, hb⟩ := told_some a0 a1
  cases b with
  | false =>
    refine ⟨0, [], false, by simp, fun k hk => ?_, fun k hk => ?_⟩
    · unfold spec_LikeliestOrder.f
      rw [told_same, hb]
      rfl
    · unfold impl_LikeliestOrder.f
      rw [hb]
      rfl
  | true =>
    obtain ⟨c1, c2, c3, c4⟩ := told_true hb
    obtain ⟨n, rfl⟩ : ∃ n : Nat, a0 = n := ⟨a0.toNat, by omega⟩
    obtain ⟨K, rfl⟩ : ∃ n : Nat, a1 = n := ⟨a1.toNat, by omega⟩
    obtain ⟨O, T, F⟩ := facts n (by omega) (by omega)
    obtain ⟨q0, hq, hq1, hq2⟩ := made_base F
    obtain ⟨l1, l2⟩ := lk_all F (by omega) (by omega) K (by omega)
    have hlen := F.size K (by omega)
    have hsm := F.some_
    obtain ⟨c, e1, e2, _⟩ := lk_l0 (n : Int) (T K) (by omega) (T K).length 0 0 0 (by omega) (by omega)
    have hok := of_decide_eq_true l1
    rw [show ((0 : Nat) : Int) = 0 from rfl] at e1
    rw [e1, Int.toNat_natCast] at hok
    refine ⟨25200, O.getD c [], true, ?_, fun k hk => ?_, fun k hk => ?_⟩
    · rw [F.len c (by omega)]; omega
    · unfold spec_LikeliestOrder.f
      rw [told_same, hb, Option.bind_some, if_pos rfl, (F.ch K (by omega) k (by omega)).2, Option.bind_some]
      obtain ⟨j, rfl⟩ : ∃ j, k = j + (T K).length + 1 := ⟨k - (T K).length - 1, by omega⟩
      obtain ⟨c', f1, f2, f3⟩ := lk_l0 (n : Int) (T K) (by omega) (T K).length 0 0 j (by omega) (by omega)
      rw [show ((0 : Nat) : Int) = 0 from rfl] at f1 f3
      have : c' = c := by have := f1.symm.trans e1; omega
      subst this
      rw [f3, (F.ch K (by omega) j (by omega)).1, Option.bind_some, if_pos (by omega), if_pos (by omega)]
      congr 2
      try (unfold rd_L1; rw [Int.toNat_natCast])
    · unfold impl_LikeliestOrder.f
      rw [hb, Option.bind_some, if_pos rfl, (hq k (by omega)).1, Option.bind_some, (hq k (by omega)).2, Option.bind_some, if_pos ⟨by omega, by omega, by omega, by omega, by omega⟩]
      unfold ordersF
      rw [(hq k (by omega)).1, Option.bind_some, F.len 0 hsm.1, lk_fold _ n [] (O.getD 0 []) _ (F.len 0 hsm.1) (by rw [F.len 0 hsm.1]; simp; omega), l2]
      rw [lk_pick _ O (T K) ([], 0) hlen.symm (fun i hi s => ?_), Option.bind_some, hok]
      obtain ⟨q, g1, g2⟩ := F.key i hi
      have hqs : q.size ≤ 1000 := by
        have h1 : q.size = q.data.toList.length := (Array.length_toList).symm
        rw [h1, g2]
        show (List.map _ _).length ≤ 1000
        rw [List.length_map, F.len i hi]
        omega
      have hne : O.getD i [] ≠ [] := by
        intro h
        have := F.len i hi
        rw [h] at this
        simp at this
        omega
      unfold impl_LikeliestOrder.step
      rw [if_neg hne, at_rounds (fun k => impl_orderKey.mono _ k) (show 20 ≤ k by omega) g1, Option.bind_some, if_pos hqs, Int.toNat_natCast, Int.toNat_natCast, hq1, g2, (F.tab K (by omega) i hi).1]
end Go.Proofs.Ytghogdffocnjnaa.L
