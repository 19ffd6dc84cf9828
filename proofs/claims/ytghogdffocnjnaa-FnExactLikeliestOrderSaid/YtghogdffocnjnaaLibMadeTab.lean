/- The counts that the program's map keeps are those of the reference's tables: each round is checked once by the kernel's run. No condition. -/
import Derived.Test.YtghogdffocnjnaaLibChTab
import Derived.Test.YtghogdffocnjnaaLibOrder
import Derived.Test.YtghogdffocnjnaaQx7
import Derived.Test.YtghogdffocnjnaaQx9
import Derived.Test.YtghogdffocnjnaaQx10
import Derived.Test.YtghogdffocnjnaaQx24
import Derived.Test.YtghogdffocnjnaaQx41
import Derived.Test.YtghogdffocnjnaaQx42
import Derived.Test.YtghogdffocnjnaaQx43
namespace Go.Proofs.Ytghogdffocnjnaa.L
open Go.RowKit Go.Proofs.Ytghogdffocnjnaa.Q Go.Proofs.YtghogdffocnjnaaW.PrintWords Go.Proofs.YtghogdffocnjnaaW.PrintLast
set_option linter.unusedVariables false
set_option linter.unusedSimpArgs false
def keyB (p : List Int) : List UInt8 := p.map fun x => UInt8.ofNat (48 + x.toNat)
def nbv (nb : List (List Nat)) (i r : Nat) : Nat := (nb.getD i []).getD r 0
def tabOk (n : Nat) (O : List (List Int)) (nb : List (List Nat)) : Bool := (List.range O.length).all fun i => decide ((keyB (O.getD i [])).length = n) && (List.range (n - 1)).all fun r => decide (nbv nb i r < O.length) && decide (keyB (O.getD (nbv nb i r) []) = mdSw (keyB (O.getD i [])) r)
def stepOk (n len : Nat) (nb : List (List Nat)) (T T1 : List Int) : Bool := (List.range len).all fun i => decide (T1.getD i 0 = mdSum (n - 1) fun r => T.getD (nbv nb i r) 0) && decide (0 ≤ T1.getD i 0 ∧ T1.getD i 0 ≤ 4611686018427387904) && decide (decide (0 < T1.getD i 0) = mdAny (n - 1) fun r => decide (0 < T.getD (nbv nb i r) 0))
theorem mdTab (n : Nat) (q0 : List UInt8) (O : List (List Int)) (nb : List (List Nat)) (T : Nat → List Int) (h1 : tabOk n O nb = true) (h0 : ∀ i, i < O.length → (T 0).getD i 0 = (if keyB (O.getD i []) = q0 then 1 else 0)) (hs : ∀ j, j < 20 → stepOk n O.length nb (T j) (T (j + 1)) = true) :
    ∀ j, j ≤ 20 → ∀ i, i < O.length → mdC n q0 j (keyB (O.getD i [])) = (T j).getD i 0 ∧ mdH n q0 j (keyB (O.getD i [])) = decide (0 < (T j).getD i 0)
  | 0, _, i, hi => by
    have h := h0 i hi
    unfold mdC mdH
    by_cases e : keyB (O.getD i []) = q0
    · rw [if_pos e] at h
      rw [if_pos e, h, decide_eq_true e]
      exact ⟨rfl, rfl⟩
    · rw [if_neg e] at h
      rw [if_neg e, h, decide_eq_false e]
      exact ⟨rfl, rfl⟩
  | j + 1, hj, i, hi => by
    have ih := mdTab n q0 O nb T h1 h0 hs j (by omega)
    have a := List.all_eq_true.1 h1 i (List.mem_range.2 hi)
    rw [Bool.and_eq_true] at a
    have hl := of_decide_eq_true a.1
    have hn : ∀ r, r < n - 1 → nbv nb i r < O.length ∧ keyB (O.getD (nbv nb i r) []) = mdSw (keyB (O.getD i [])) r := fun r hr => by
      have b := List.all_eq_true.1 a.2 r (List.mem_range.2 hr)
      rw [Bool.and_eq_true] at b
      exact ⟨of_decide_eq_true b.1, of_decide_eq_true b.2⟩
    have c := List.all_eq_true.1 (hs j (by omega)) i (List.mem_range.2 hi)
    rw [Bool.and_eq_true, Bool.and_eq_true] at c
    have c1 := of_decide_eq_true c.1.1
    have c2 := of_decide_eq_true c.1.2
    have c3 := of_decide_eq_true c.2
    constructor
    · unfold mdC mdStepC
      rw [if_pos hl, mdSum_congr (n - 1) (g := fun r => (T j).getD (nbv nb i r) 0) (fun r hr => by rw [← (hn r hr).2]; exact (ih _ (hn r hr).1).1), ← c1]
      unfold wrap64
      omega
    · unfold mdH mdStepH
      rw [decide_eq_true hl, Bool.true_and, mdAny_congr (n - 1) (g := fun r => decide (0 < (T j).getD (nbv nb i r) 0)) (fun r hr => by rw [← (hn r hr).2]; exact (ih _ (hn r hr).1).2), c3]
/-- All lists of so many numbers. -/
def listsN (n : Nat) : Nat → List (List Int)
  | 0 => [[]]
  | d + 1 => (List.range n).flatMap fun x => (listsN n d).map fun l => ((x : Nat) : Int) :: l
theorem listsN_mem (n : Nat) : ∀ (d : Nat) (l : List Int), l.length = d → (∀ x ∈ l, 0 ≤ x ∧ x ≤ (n : Int) - 1) → l ∈ listsN n d
  | 0, [], _, _ => by simp [listsN]
  | d + 1, x :: l, h, hx => by
    obtain ⟨h1, h2⟩ := hx x List.mem_cons_self
    unfold listsN
    rw [List.mem_flatMap]
    refine ⟨x.toNat, List.mem_range.2 (by omega), List.mem_map.2 ⟨l, listsN_mem n d l (by simpa using h) (fun y hy => hx y (List.mem_cons_of_mem _ hy)), ?_⟩⟩
    rw [show ((x.toNat : Nat) : Int) = x by omega]
theorem memOf {n : Nat} {O : List (List Int)} (h : ((listsN n n).all fun l => !isOrd l || O.contains l) = true) (l : List Int) (ho : isOrd l = true) (hl : l.length = n) : ∃ i, i < O.length ∧ l = O.getD i [] := by
  have hm := listsN_mem n n l hl (fun x hx => by have := (isOrd_facts ho).2.2 x hx; rw [hl] at this; exact this)
  have hc := List.all_eq_true.1 h l hm
  rw [ho] at hc
  have hc2 : l ∈ O := by simpa using hc
  obtain ⟨i, hi, e⟩ := List.getElem_of_mem hc2
  exact ⟨i, hi, by rw [List.getD_eq_getElem?_getD, List.getElem?_eq_getElem hi, e]; rfl⟩
structure MadeFacts (n : Nat) (O : List (List Int)) (T : Nat → List Int) : Prop where
  ch : ∀ k : Nat, k ≤ 20 → ∀ K, 25000 ≤ K → spec_alOrders.f K (n : Int) = some O ∧ spec_chOrders.f K (n : Int) (k : Int) = some (T k)
  id : impl_identity.f 20 (n : Int) = some (O.getD 0 [])
  key : ∀ i, i < O.length → ∃ q, impl_orderKey.f 20 (O.getD i []) = some q ∧ q.data.toList = keyB (O.getD i [])
  len : ∀ i, i < O.length → (O.getD i []).length = n
  rank : ∀ i, i < O.length → spec_alRank.f 40 (O.getD i []) = some (i : Int)
  mem : ∀ l, isOrd l = true → l.length = n → ∃ i, i < O.length ∧ l = O.getD i []
  tab : ∀ j, j ≤ 20 → ∀ i, i < O.length → mdC n (keyB (O.getD 0 [])) j (keyB (O.getD i [])) = (T j).getD i 0 ∧ mdH n (keyB (O.getD 0 [])) j (keyB (O.getD i [])) = decide (0 < (T j).getD i 0)
  size : ∀ j, j ≤ 20 → (T j).length = O.length
  some_ : 0 < O.length ∧ O.length ≤ 120
  perms : mdPerms n (keyB (O.getD 0 [])) = O.map keyB
  closed : mdClosed n (keyB (O.getD 0 [])) (O.map keyB) = true
  cnt : ∀ k, k ≤ 20 → spec_CountOrdersMade.l0 200 0 (T k) ((T k).length : Int) 0 = some ((((T k).filter fun x => decide (0 < x)).length : Int), true)
theorem keyOf_fin {O : List (List Int)} (h : (O.all fun p => decide ((impl_orderKey.f 20 p).map (fun s => s.data.toList) = some (keyB p))) = true) (i : Nat) (hi : i < O.length) : ∃ q, impl_orderKey.f 20 (O.getD i []) = some q ∧ q.data.toList = keyB (O.getD i []) := by
  have hm : O.getD i [] ∈ O := by rw [List.getD_eq_getElem?_getD, List.getElem?_eq_getElem hi]; exact List.getElem_mem hi
  have := of_decide_eq_true (List.all_eq_true.1 h _ hm)
  obtain ⟨q, e1, e2⟩ := Option.map_eq_some_iff.1 this
  exact ⟨q, e1, e2⟩
theorem told_true {a0 a1 : Int} (h : impl_isTold.f a0 a1 = some true) : 2 ≤ a0 ∧ a0 ≤ 5 ∧ 0 ≤ a1 ∧ a1 ≤ 20 := by
  unfold impl_isTold.f impl_isFall.f impl_between.f at h
  by_cases h1 : a0 ≥ 2
  · rw [if_pos h1, Option.bind_some] at h
    by_cases h2 : a0 ≤ 6
    · rw [decide_eq_true h2, if_pos rfl] at h
      by_cases h3 : a1 ≥ 0
      · rw [if_pos h3, Option.bind_some, Option.bind_some] at h
        by_cases h4 : a1 ≤ 20
        · rw [decide_eq_true h4, if_pos rfl] at h
          have := of_decide_eq_true (Option.some.inj h)
          omega
        · rw [decide_eq_false h4] at h; simp at h
      · rw [if_neg h3] at h; simp at h
    · rw [decide_eq_false h2] at h; simp at h
  · rw [if_neg h1] at h; simp at h
theorem told_same (a0 a1 : Int) : spec_chResults.f a0 a1 = impl_isTold.f a0 a1 := rfl
theorem told_some (a0 a1 : Int) : ∃ b, impl_isTold.f a0 a1 = some b := by
  unfold impl_isTold.f impl_isFall.f impl_between.f
  split
  · rw [Option.bind_some]
    split
    · split
      · rw [Option.bind_some, Option.bind_some]
        split
        · exact ⟨_, rfl⟩
        · exact ⟨_, rfl⟩
      · rw [Option.bind_some, Option.bind_some]
        exact ⟨_, rfl⟩
    · exact ⟨_, rfl⟩
  · rw [Option.bind_some]
    exact ⟨_, rfl⟩
def nb2 : List (List Nat) := [[1], [0]]
theorem tabOk2 : tabOk 2 ordL2 nb2 = true := by decide +kernel
theorem stepOk2_0 : stepOk 2 2 nb2 tab2_0 tab2_1 = true := by decide +kernel
theorem stepOk2_1 : stepOk 2 2 nb2 tab2_1 tab2_2 = true := by decide +kernel
theorem stepOk2_2 : stepOk 2 2 nb2 tab2_2 tab2_3 = true := by decide +kernel
theorem stepOk2_3 : stepOk 2 2 nb2 tab2_3 tab2_4 = true := by decide +kernel
theorem stepOk2_4 : stepOk 2 2 nb2 tab2_4 tab2_5 = true := by decide +kernel
theorem stepOk2_5 : stepOk 2 2 nb2 tab2_5 tab2_6 = true := by decide +kernel
theorem stepOk2_6 : stepOk 2 2 nb2 tab2_6 tab2_7 = true := by decide +kernel
theorem stepOk2_7 : stepOk 2 2 nb2 tab2_7 tab2_8 = true := by decide +kernel
theorem stepOk2_8 : stepOk 2 2 nb2 tab2_8 tab2_9 = true := by decide +kernel
theorem stepOk2_9 : stepOk 2 2 nb2 tab2_9 tab2_10 = true := by decide +kernel
theorem stepOk2_10 : stepOk 2 2 nb2 tab2_10 tab2_11 = true := by decide +kernel
theorem stepOk2_11 : stepOk 2 2 nb2 tab2_11 tab2_12 = true := by decide +kernel
theorem stepOk2_12 : stepOk 2 2 nb2 tab2_12 tab2_13 = true := by decide +kernel
theorem stepOk2_13 : stepOk 2 2 nb2 tab2_13 tab2_14 = true := by decide +kernel
theorem stepOk2_14 : stepOk 2 2 nb2 tab2_14 tab2_15 = true := by decide +kernel
theorem stepOk2_15 : stepOk 2 2 nb2 tab2_15 tab2_16 = true := by decide +kernel
theorem stepOk2_16 : stepOk 2 2 nb2 tab2_16 tab2_17 = true := by decide +kernel
theorem stepOk2_17 : stepOk 2 2 nb2 tab2_17 tab2_18 = true := by decide +kernel
theorem stepOk2_18 : stepOk 2 2 nb2 tab2_18 tab2_19 = true := by decide +kernel
theorem stepOk2_19 : stepOk 2 2 nb2 tab2_19 tab2_20 = true := by decide +kernel
theorem stepOk2 : ∀ j, j < 20 → stepOk 2 ordL2.length nb2 (tab2 j) (tab2 (j + 1)) = true
  | 0, _ => stepOk2_0
  | 1, _ => stepOk2_1
  | 2, _ => stepOk2_2
  | 3, _ => stepOk2_3
  | 4, _ => stepOk2_4
  | 5, _ => stepOk2_5
  | 6, _ => stepOk2_6
  | 7, _ => stepOk2_7
  | 8, _ => stepOk2_8
  | 9, _ => stepOk2_9
  | 10, _ => stepOk2_10
  | 11, _ => stepOk2_11
  | 12, _ => stepOk2_12
  | 13, _ => stepOk2_13
  | 14, _ => stepOk2_14
  | 15, _ => stepOk2_15
  | 16, _ => stepOk2_16
  | 17, _ => stepOk2_17
  | 18, _ => stepOk2_18
  | 19, _ => stepOk2_19
  | j + 20, h => absurd h (by omega)
theorem start2 : ∀ i ∈ List.range 2, (tab2 0).getD i 0 = (if keyB (ordL2.getD i []) = keyB (ordL2.getD 0 []) then 1 else 0) := by decide +kernel
theorem key2 : (ordL2.all fun p => decide ((impl_orderKey.f 20 p).map (fun s => s.data.toList) = some (keyB p))) = true := by decide +kernel
theorem rank2 : ∀ i ∈ List.range 2, spec_alRank.f 40 (ordL2.getD i []) = some (i : Int) := by decide +kernel
theorem len2 : ∀ i ∈ List.range 2, (ordL2.getD i []).length = 2 := by decide +kernel
theorem mem2 : ((listsN 2 2).all fun l => !isOrd l || ordL2.contains l) = true := by decide +kernel
theorem size2 : ∀ j ∈ List.range 21, (tab2 j).length = ordL2.length := by decide +kernel
theorem perms2 : mdPerms 2 (keyB (ordL2.getD 0 [])) = ordL2.map keyB := by decide +kernel
theorem closed2 : mdClosed 2 (keyB (ordL2.getD 0 [])) (ordL2.map keyB) = true := by decide +kernel
theorem cnt2 : ∀ k ∈ List.range 21, spec_CountOrdersMade.l0 200 0 (tab2 k) ((tab2 k).length : Int) 0 = some ((((tab2 k).filter fun x => decide (0 < x)).length : Int), true) := by decide +kernel
theorem facts2 : MadeFacts 2 ordL2 tab2 where
  ch := fun k hk K hK => ch2 k hk K hK
  id := by decide +kernel
  key := keyOf_fin key2
  len := fun i hi => len2 i (List.mem_range.2 hi)
  rank := fun i hi => rank2 i (List.mem_range.2 hi)
  mem := memOf mem2
  tab := mdTab 2 _ ordL2 nb2 tab2 tabOk2 (fun i hi => start2 i (List.mem_range.2 hi)) stepOk2
  size := fun j hj => size2 j (List.mem_range.2 (by omega))
  some_ := ⟨by decide, by decide⟩
  perms := perms2
  closed := closed2
  cnt := fun k hk => cnt2 k (List.mem_range.2 (by omega))
def nb3 : List (List Nat) := [[2, 1], [4, 0], [0, 3], [5, 2], [1, 5], [3, 4]]
theorem tabOk3 : tabOk 3 ordL3 nb3 = true := by decide +kernel
theorem stepOk3_0 : stepOk 3 6 nb3 tab3_0 tab3_1 = true := by decide +kernel
theorem stepOk3_1 : stepOk 3 6 nb3 tab3_1 tab3_2 = true := by decide +kernel
theorem stepOk3_2 : stepOk 3 6 nb3 tab3_2 tab3_3 = true := by decide +kernel
theorem stepOk3_3 : stepOk 3 6 nb3 tab3_3 tab3_4 = true := by decide +kernel
theorem stepOk3_4 : stepOk 3 6 nb3 tab3_4 tab3_5 = true := by decide +kernel
theorem stepOk3_5 : stepOk 3 6 nb3 tab3_5 tab3_6 = true := by decide +kernel
theorem stepOk3_6 : stepOk 3 6 nb3 tab3_6 tab3_7 = true := by decide +kernel
theorem stepOk3_7 : stepOk 3 6 nb3 tab3_7 tab3_8 = true := by decide +kernel
theorem stepOk3_8 : stepOk 3 6 nb3 tab3_8 tab3_9 = true := by decide +kernel
theorem stepOk3_9 : stepOk 3 6 nb3 tab3_9 tab3_10 = true := by decide +kernel
theorem stepOk3_10 : stepOk 3 6 nb3 tab3_10 tab3_11 = true := by decide +kernel
theorem stepOk3_11 : stepOk 3 6 nb3 tab3_11 tab3_12 = true := by decide +kernel
theorem stepOk3_12 : stepOk 3 6 nb3 tab3_12 tab3_13 = true := by decide +kernel
theorem stepOk3_13 : stepOk 3 6 nb3 tab3_13 tab3_14 = true := by decide +kernel
theorem stepOk3_14 : stepOk 3 6 nb3 tab3_14 tab3_15 = true := by decide +kernel
theorem stepOk3_15 : stepOk 3 6 nb3 tab3_15 tab3_16 = true := by decide +kernel
theorem stepOk3_16 : stepOk 3 6 nb3 tab3_16 tab3_17 = true := by decide +kernel
theorem stepOk3_17 : stepOk 3 6 nb3 tab3_17 tab3_18 = true := by decide +kernel
theorem stepOk3_18 : stepOk 3 6 nb3 tab3_18 tab3_19 = true := by decide +kernel
theorem stepOk3_19 : stepOk 3 6 nb3 tab3_19 tab3_20 = true := by decide +kernel
theorem stepOk3 : ∀ j, j < 20 → stepOk 3 ordL3.length nb3 (tab3 j) (tab3 (j + 1)) = true
  | 0, _ => stepOk3_0
  | 1, _ => stepOk3_1
  | 2, _ => stepOk3_2
  | 3, _ => stepOk3_3
  | 4, _ => stepOk3_4
  | 5, _ => stepOk3_5
  | 6, _ => stepOk3_6
  | 7, _ => stepOk3_7
  | 8, _ => stepOk3_8
  | 9, _ => stepOk3_9
  | 10, _ => stepOk3_10
  | 11, _ => stepOk3_11
  | 12, _ => stepOk3_12
  | 13, _ => stepOk3_13
  | 14, _ => stepOk3_14
  | 15, _ => stepOk3_15
  | 16, _ => stepOk3_16
  | 17, _ => stepOk3_17
  | 18, _ => stepOk3_18
  | 19, _ => stepOk3_19
  | j + 20, h => absurd h (by omega)
theorem start3 : ∀ i ∈ List.range 6, (tab3 0).getD i 0 = (if keyB (ordL3.getD i []) = keyB (ordL3.getD 0 []) then 1 else 0) := by decide +kernel
theorem key3 : (ordL3.all fun p => decide ((impl_orderKey.f 20 p).map (fun s => s.data.toList) = some (keyB p))) = true := by decide +kernel
theorem rank3 : ∀ i ∈ List.range 6, spec_alRank.f 40 (ordL3.getD i []) = some (i : Int) := by decide +kernel
theorem len3 : ∀ i ∈ List.range 6, (ordL3.getD i []).length = 3 := by decide +kernel
theorem mem3 : ((listsN 3 3).all fun l => !isOrd l || ordL3.contains l) = true := by decide +kernel
theorem size3 : ∀ j ∈ List.range 21, (tab3 j).length = ordL3.length := by decide +kernel
theorem perms3 : mdPerms 3 (keyB (ordL3.getD 0 [])) = ordL3.map keyB := by decide +kernel
theorem closed3 : mdClosed 3 (keyB (ordL3.getD 0 [])) (ordL3.map keyB) = true := by decide +kernel
theorem cnt3 : ∀ k ∈ List.range 21, spec_CountOrdersMade.l0 200 0 (tab3 k) ((tab3 k).length : Int) 0 = some ((((tab3 k).filter fun x => decide (0 < x)).length : Int), true) := by decide +kernel
theorem facts3 : MadeFacts 3 ordL3 tab3 where
  ch := fun k hk K hK => ch3 k hk K hK
  id := by decide +kernel
  key := keyOf_fin key3
  len := fun i hi => len3 i (List.mem_range.2 hi)
  rank := fun i hi => rank3 i (List.mem_range.2 hi)
  mem := memOf mem3
  tab := mdTab 3 _ ordL3 nb3 tab3 tabOk3 (fun i hi => start3 i (List.mem_range.2 hi)) stepOk3
  size := fun j hj => size3 j (List.mem_range.2 (by omega))
  some_ := ⟨by decide, by decide⟩
  perms := perms3
  closed := closed3
  cnt := fun k hk => cnt3 k (List.mem_range.2 (by omega))
def nb4 : List (List Nat) := [[6, 2, 1], [7, 4, 0], [12, 0, 3], [13, 5, 2], [18, 1, 5], [19, 3, 4], [0, 8, 7], [1, 10, 6], [14, 6, 9], [15, 11, 8], [20, 7, 11], [21, 9, 10], [2, 14, 13], [3, 16, 12], [8, 12, 15], [9, 17, 14], [22, 13, 17], [23, 15, 16], [4, 20, 19], [5, 22, 18], [10, 18, 21], [11, 23, 20], [16, 19, 23], [17, 21, 22]]
theorem tabOk4 : tabOk 4 ordL4 nb4 = true := by decide +kernel
theorem stepOk4_0 : stepOk 4 24 nb4 tab4_0 tab4_1 = true := by decide +kernel
theorem stepOk4_1 : stepOk 4 24 nb4 tab4_1 tab4_2 = true := by decide +kernel
theorem stepOk4_2 : stepOk 4 24 nb4 tab4_2 tab4_3 = true := by decide +kernel
theorem stepOk4_3 : stepOk 4 24 nb4 tab4_3 tab4_4 = true := by decide +kernel
theorem stepOk4_4 : stepOk 4 24 nb4 tab4_4 tab4_5 = true := by decide +kernel
theorem stepOk4_5 : stepOk 4 24 nb4 tab4_5 tab4_6 = true := by decide +kernel
theorem stepOk4_6 : stepOk 4 24 nb4 tab4_6 tab4_7 = true := by decide +kernel
theorem stepOk4_7 : stepOk 4 24 nb4 tab4_7 tab4_8 = true := by decide +kernel
theorem stepOk4_8 : stepOk 4 24 nb4 tab4_8 tab4_9 = true := by decide +kernel
theorem stepOk4_9 : stepOk 4 24 nb4 tab4_9 tab4_10 = true := by decide +kernel
theorem stepOk4_10 : stepOk 4 24 nb4 tab4_10 tab4_11 = true := by decide +kernel
theorem stepOk4_11 : stepOk 4 24 nb4 tab4_11 tab4_12 = true := by decide +kernel
theorem stepOk4_12 : stepOk 4 24 nb4 tab4_12 tab4_13 = true := by decide +kernel
theorem stepOk4_13 : stepOk 4 24 nb4 tab4_13 tab4_14 = true := by decide +kernel
theorem stepOk4_14 : stepOk 4 24 nb4 tab4_14 tab4_15 = true := by decide +kernel
theorem stepOk4_15 : stepOk 4 24 nb4 tab4_15 tab4_16 = true := by decide +kernel
theorem stepOk4_16 : stepOk 4 24 nb4 tab4_16 tab4_17 = true := by decide +kernel
theorem stepOk4_17 : stepOk 4 24 nb4 tab4_17 tab4_18 = true := by decide +kernel
theorem stepOk4_18 : stepOk 4 24 nb4 tab4_18 tab4_19 = true := by decide +kernel
theorem stepOk4_19 : stepOk 4 24 nb4 tab4_19 tab4_20 = true := by decide +kernel
theorem stepOk4 : ∀ j, j < 20 → stepOk 4 ordL4.length nb4 (tab4 j) (tab4 (j + 1)) = true
  | 0, _ => stepOk4_0
  | 1, _ => stepOk4_1
  | 2, _ => stepOk4_2
  | 3, _ => stepOk4_3
  | 4, _ => stepOk4_4
  | 5, _ => stepOk4_5
  | 6, _ => stepOk4_6
  | 7, _ => stepOk4_7
  | 8, _ => stepOk4_8
  | 9, _ => stepOk4_9
  | 10, _ => stepOk4_10
  | 11, _ => stepOk4_11
  | 12, _ => stepOk4_12
  | 13, _ => stepOk4_13
  | 14, _ => stepOk4_14
  | 15, _ => stepOk4_15
  | 16, _ => stepOk4_16
  | 17, _ => stepOk4_17
  | 18, _ => stepOk4_18
  | 19, _ => stepOk4_19
  | j + 20, h => absurd h (by omega)
theorem start4 : ∀ i ∈ List.range 24, (tab4 0).getD i 0 = (if keyB (ordL4.getD i []) = keyB (ordL4.getD 0 []) then 1 else 0) := by decide +kernel
theorem key4 : (ordL4.all fun p => decide ((impl_orderKey.f 20 p).map (fun s => s.data.toList) = some (keyB p))) = true := by decide +kernel
theorem rank4 : ∀ i ∈ List.range 24, spec_alRank.f 40 (ordL4.getD i []) = some (i : Int) := by decide +kernel
theorem len4 : ∀ i ∈ List.range 24, (ordL4.getD i []).length = 4 := by decide +kernel
theorem mem4 : ((listsN 4 4).all fun l => !isOrd l || ordL4.contains l) = true := by decide +kernel
theorem size4 : ∀ j ∈ List.range 21, (tab4 j).length = ordL4.length := by decide +kernel
theorem perms4 : mdPerms 4 (keyB (ordL4.getD 0 [])) = ordL4.map keyB := by decide +kernel
theorem closed4 : mdClosed 4 (keyB (ordL4.getD 0 [])) (ordL4.map keyB) = true := by decide +kernel
theorem cnt4 : ∀ k ∈ List.range 21, spec_CountOrdersMade.l0 200 0 (tab4 k) ((tab4 k).length : Int) 0 = some ((((tab4 k).filter fun x => decide (0 < x)).length : Int), true) := by decide +kernel
theorem facts4 : MadeFacts 4 ordL4 tab4 where
  ch := fun k hk K hK => ch4 k hk K hK
  id := by decide +kernel
  key := keyOf_fin key4
  len := fun i hi => len4 i (List.mem_range.2 hi)
  rank := fun i hi => rank4 i (List.mem_range.2 hi)
  mem := memOf mem4
  tab := mdTab 4 _ ordL4 nb4 tab4 tabOk4 (fun i hi => start4 i (List.mem_range.2 hi)) stepOk4
  size := fun j hj => size4 j (List.mem_range.2 (by omega))
  some_ := ⟨by decide, by decide⟩
  perms := perms4
  closed := closed4
  cnt := fun k hk => cnt4 k (List.mem_range.2 (by omega))
def nb5 : List (List Nat) := [[24, 6, 2, 1], [25, 7, 4, 0], [26, 12, 0, 3], [27, 13, 5, 2], [28, 18, 1, 5], [29, 19, 3, 4], [48, 0, 8, 7], [49, 1, 10, 6], [50, 14, 6, 9], [51, 15, 11, 8], [52, 20, 7, 11], [53, 21, 9, 10], [72, 2, 14, 13], [73, 3, 16, 12], [74, 8, 12, 15], [75, 9, 17, 14], [76, 22, 13, 17], [77, 23, 15, 16], [96, 4, 20, 19], [97, 5, 22, 18], [98, 10, 18, 21], [99, 11, 23, 20], [100, 16, 19, 23], [101, 17, 21, 22], [0, 30, 26, 25], [1, 31, 28, 24], [2, 36, 24, 27], [3, 37, 29, 26], [4, 42, 25, 29], [5, 43, 27, 28], [54, 24, 32, 31], [55, 25, 34, 30], [56, 38, 30, 33], [57, 39, 35, 32], [58, 44, 31, 35], [59, 45, 33, 34], [78, 26, 38, 37], [79, 27, 40, 36], [80, 32, 36, 39], [81, 33, 41, 38], [82, 46, 37, 41], [83, 47, 39, 40], [102, 28, 44, 43], [103, 29, 46, 42], [104, 34, 42, 45], [105, 35, 47, 44], [106, 40, 43, 47], [107, 41, 45, 46], [6, 54, 50, 49], [7, 55, 52, 48], [8, 60, 48, 51], [9, 61, 53, 50], [10, 66, 49, 53], [11, 67, 51, 52], [30, 48, 56, 55], [31, 49, 58, 54], [32, 62, 54, 57], [33, 63, 59, 56], [34, 68, 55, 59], [35, 69, 57, 58], [84, 50, 62, 61], [85, 51, 64, 60], [86, 56, 60, 63], [87, 57, 65, 62], [88, 70, 61, 65], [89, 71, 63, 64], [108, 52, 68, 67], [109, 53, 70, 66], [110, 58, 66, 69], [111, 59, 71, 68], [112, 64, 67, 71], [113, 65, 69, 70], [12, 78, 74, 73], [13, 79, 76, 72], [14, 84, 72, 75], [15, 85, 77, 74], [16, 90, 73, 77], [17, 91, 75, 76], [36, 72, 80, 79], [37, 73, 82, 78], [38, 86, 78, 81], [39, 87, 83, 80], [40, 92, 79, 83], [41, 93, 81, 82], [60, 74, 86, 85], [61, 75, 88, 84], [62, 80, 84, 87], [63, 81, 89, 86], [64, 94, 85, 89], [65, 95, 87, 88], [114, 76, 92, 91], [115, 77, 94, 90], [116, 82, 90, 93], [117, 83, 95, 92], [118, 88, 91, 95], [119, 89, 93, 94], [18, 102, 98, 97], [19, 103, 100, 96], [20, 108, 96, 99], [21, 109, 101, 98], [22, 114, 97, 101], [23, 115, 99, 100], [42, 96, 104, 103], [43, 97, 106, 102], [44, 110, 102, 105], [45, 111, 107, 104], [46, 116, 103, 107], [47, 117, 105, 106], [66, 98, 110, 109], [67, 99, 112, 108], [68, 104, 108, 111], [69, 105, 113, 110], [70, 118, 109, 113], [71, 119, 111, 112], [90, 100, 116, 115], [91, 101, 118, 114], [92, 106, 114, 117], [93, 107, 119, 116], [94, 112, 115, 119], [95, 113, 117, 118]]
theorem tabOk5 : tabOk 5 ordL5 nb5 = true := by decide +kernel
theorem stepOk5_0 : stepOk 5 120 nb5 tab5_0 tab5_1 = true := by decide +kernel
theorem stepOk5_1 : stepOk 5 120 nb5 tab5_1 tab5_2 = true := by decide +kernel
theorem stepOk5_2 : stepOk 5 120 nb5 tab5_2 tab5_3 = true := by decide +kernel
theorem stepOk5_3 : stepOk 5 120 nb5 tab5_3 tab5_4 = true := by decide +kernel
theorem stepOk5_4 : stepOk 5 120 nb5 tab5_4 tab5_5 = true := by decide +kernel
theorem stepOk5_5 : stepOk 5 120 nb5 tab5_5 tab5_6 = true := by decide +kernel
theorem stepOk5_6 : stepOk 5 120 nb5 tab5_6 tab5_7 = true := by decide +kernel
theorem stepOk5_7 : stepOk 5 120 nb5 tab5_7 tab5_8 = true := by decide +kernel
theorem stepOk5_8 : stepOk 5 120 nb5 tab5_8 tab5_9 = true := by decide +kernel
theorem stepOk5_9 : stepOk 5 120 nb5 tab5_9 tab5_10 = true := by decide +kernel
theorem stepOk5_10 : stepOk 5 120 nb5 tab5_10 tab5_11 = true := by decide +kernel
theorem stepOk5_11 : stepOk 5 120 nb5 tab5_11 tab5_12 = true := by decide +kernel
theorem stepOk5_12 : stepOk 5 120 nb5 tab5_12 tab5_13 = true := by decide +kernel
theorem stepOk5_13 : stepOk 5 120 nb5 tab5_13 tab5_14 = true := by decide +kernel
theorem stepOk5_14 : stepOk 5 120 nb5 tab5_14 tab5_15 = true := by decide +kernel
theorem stepOk5_15 : stepOk 5 120 nb5 tab5_15 tab5_16 = true := by decide +kernel
theorem stepOk5_16 : stepOk 5 120 nb5 tab5_16 tab5_17 = true := by decide +kernel
theorem stepOk5_17 : stepOk 5 120 nb5 tab5_17 tab5_18 = true := by decide +kernel
theorem stepOk5_18 : stepOk 5 120 nb5 tab5_18 tab5_19 = true := by decide +kernel
theorem stepOk5_19 : stepOk 5 120 nb5 tab5_19 tab5_20 = true := by decide +kernel
theorem stepOk5 : ∀ j, j < 20 → stepOk 5 ordL5.length nb5 (tab5 j) (tab5 (j + 1)) = true
  | 0, _ => stepOk5_0
  | 1, _ => stepOk5_1
  | 2, _ => stepOk5_2
  | 3, _ => stepOk5_3
  | 4, _ => stepOk5_4
  | 5, _ => stepOk5_5
  | 6, _ => stepOk5_6
  | 7, _ => stepOk5_7
  | 8, _ => stepOk5_8
  | 9, _ => stepOk5_9
  | 10, _ => stepOk5_10
  | 11, _ => stepOk5_11
  | 12, _ => stepOk5_12
  | 13, _ => stepOk5_13
  | 14, _ => stepOk5_14
  | 15, _ => stepOk5_15
  | 16, _ => stepOk5_16
  | 17, _ => stepOk5_17
  | 18, _ => stepOk5_18
  | 19, _ => stepOk5_19
  | j + 20, h => absurd h (by omega)
theorem start5 : ∀ i ∈ List.range 120, (tab5 0).getD i 0 = (if keyB (ordL5.getD i []) = keyB (ordL5.getD 0 []) then 1 else 0) := by decide +kernel
theorem key5 : (ordL5.all fun p => decide ((impl_orderKey.f 20 p).map (fun s => s.data.toList) = some (keyB p))) = true := by decide +kernel
theorem rank5 : ∀ i ∈ List.range 120, spec_alRank.f 40 (ordL5.getD i []) = some (i : Int) := by decide +kernel
theorem len5 : ∀ i ∈ List.range 120, (ordL5.getD i []).length = 5 := by decide +kernel
theorem mem5 : ((listsN 5 5).all fun l => !isOrd l || ordL5.contains l) = true := by decide +kernel
theorem size5 : ∀ j ∈ List.range 21, (tab5 j).length = ordL5.length := by decide +kernel
theorem perms5 : mdPerms 5 (keyB (ordL5.getD 0 [])) = ordL5.map keyB := by decide +kernel
theorem closed5 : mdClosed 5 (keyB (ordL5.getD 0 [])) (ordL5.map keyB) = true := by decide +kernel
theorem cnt5 : ∀ k ∈ List.range 21, spec_CountOrdersMade.l0 200 0 (tab5 k) ((tab5 k).length : Int) 0 = some ((((tab5 k).filter fun x => decide (0 < x)).length : Int), true) := by decide +kernel
theorem facts5 : MadeFacts 5 ordL5 tab5 where
  ch := fun k hk K hK => ch5 k hk K hK
  id := by decide +kernel
  key := keyOf_fin key5
  len := fun i hi => len5 i (List.mem_range.2 hi)
  rank := fun i hi => rank5 i (List.mem_range.2 hi)
  mem := memOf mem5
  tab := mdTab 5 _ ordL5 nb5 tab5 tabOk5 (fun i hi => start5 i (List.mem_range.2 hi)) stepOk5
  size := fun j hj => size5 j (List.mem_range.2 (by omega))
  some_ := ⟨by decide, by decide⟩
  perms := perms5
  closed := closed5
  cnt := fun k hk => cnt5 k (List.mem_range.2 (by omega))
theorem facts (n : Nat) (h1 : 2 ≤ n) (h2 : n ≤ 5) : ∃ O T, MadeFacts n O T := by
  rcases (by omega : n = 2 ∨ n = 3 ∨ n = 4 ∨ n = 5) with rfl | rfl | rfl | rfl
  · exact ⟨_, _, facts2⟩
  · exact ⟨_, _, facts3⟩
  · exact ⟨_, _, facts4⟩
  · exact ⟨_, _, facts5⟩
end Go.Proofs.Ytghogdffocnjnaa.L
