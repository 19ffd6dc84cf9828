/- Orders of up to five wires, told one by one: inversions, least ladders, the way back, chances and the likeliest one. -/
import Derived.Test.YtabobnlpcapohaaLibPa
import Derived.Test.YtabobnlpcapohaaQm2
import Derived.Test.YtabobnlpcapohaaQm3
import Derived.Test.YtabobnlpcapohaaQm10
import Derived.Test.YtabobnlpcapohaaQm4
import Derived.Test.YtabobnlpcapohaaQm5
namespace Go.Proofs.Ytabobnlpcapohaa.L
open Go.RowKit Go.Proofs.Ytabobnlpcapohaa.Q Go.Proofs.YtabobnlpcapohaaW.PrintWords Go.Proofs.YtabobnlpcapohaaW.PrintLast
set_option linter.unusedVariables false
set_option linter.unusedSimpArgs false
def inf2 : List (Int × Int × Nat × Nat) := [(0, 1, 0, 1), (1, 1, 1, 2)]
def inf3 : List (Int × Int × Nat × Nat) := [(0, 1, 0, 1), (1, 1, 1, 2), (1, 1, 2, 2), (2, 1, 4, 3), (2, 1, 3, 3), (3, 2, 5, 7)]
def inf4 : List (Int × Int × Nat × Nat) := [(0, 1, 0, 1), (1, 1, 1, 2), (1, 1, 2, 2), (2, 1, 4, 3), (2, 1, 3, 3), (3, 2, 5, 7), (1, 1, 6, 2), (2, 2, 7, 5), (2, 1, 12, 3), (3, 1, 18, 4), (3, 2, 13, 6), (4, 3, 19, 11), (2, 1, 8, 3), (3, 2, 10, 7), (3, 2, 14, 7), (4, 3, 20, 12), (4, 2, 16, 8), (5, 5, 22, 21), (3, 1, 9, 4), (4, 3, 11, 12), (4, 3, 15, 11), (5, 6, 21, 23), (5, 5, 17, 21), (6, 16, 23, 66)]
def inf5 : List (Int × Int × Nat × Nat) := [(0, 1, 0, 1), (1, 1, 1, 2), (1, 1, 2, 2), (2, 1, 4, 3), (2, 1, 3, 3), (3, 2, 5, 7), (1, 1, 6, 2), (2, 2, 7, 5), (2, 1, 12, 3), (3, 1, 18, 4), (3, 2, 13, 6), (4, 3, 19, 11), (2, 1, 8, 3), (3, 2, 10, 7), (3, 2, 14, 7), (4, 3, 20, 12), (4, 2, 16, 8), (5, 5, 22, 21), (3, 1, 9, 4), (4, 3, 11, 12), (4, 3, 15, 11), (5, 6, 21, 23), (5, 5, 17, 21), (6, 16, 23, 66), (1, 1, 24, 2), (2, 2, 25, 5), (2, 2, 26, 5), (3, 3, 28, 9), (3, 3, 27, 9), (4, 8, 29, 26), (2, 1, 48, 3), (3, 3, 49, 9), (3, 1, 72, 4), (4, 1, 96, 5), (4, 3, 73, 10), (5, 4, 97, 16), (3, 2, 50, 6), (4, 5, 52, 16), (4, 3, 74, 11), (5, 4, 98, 17), (5, 5, 76, 17), (6, 9, 100, 35), (4, 3, 51, 10), (5, 11, 53, 37), (5, 6, 75, 21), (6, 10, 99, 38), (6, 16, 77, 55), (7, 35, 101, 129), (2, 1, 30, 3), (3, 3, 31, 9), (3, 2, 36, 7), (4, 3, 42, 12), (4, 5, 37, 16), (5, 11, 43, 40), (3, 2, 54, 7), (4, 8, 55, 26), (4, 3, 78, 12), (5, 4, 102, 18), (5, 11, 79, 37), (6, 19, 103, 72), (4, 2, 60, 8), (5, 5, 66, 21), (5, 5, 84, 21), (6, 9, 108, 40), (6, 5, 90, 22), (7, 14, 114, 63), (5, 5, 61, 17), (6, 16, 67, 58), (6, 16, 85, 55), (7, 35, 109, 128), (7, 21, 91, 81), (8, 70, 115, 273), (3, 1, 32, 4), (4, 3, 34, 12), (4, 3, 38, 12), (5, 6, 44, 25), (5, 5, 40, 21), (6, 16, 46, 68), (4, 3, 56, 11), (5, 11, 58, 40), (5, 6, 80, 23), (6, 10, 104, 41), (6, 16, 82, 58), (7, 35, 106, 135), (5, 5, 62, 21), (6, 16, 68, 68), (6, 16, 86, 66), (7, 35, 110, 148), (7, 21, 92, 91), (8, 70, 116, 303), (6, 5, 64, 22), (7, 21, 70, 91), (7, 21, 88, 81), (8, 56, 112, 217), (8, 42, 94, 183), (9, 168, 118, 704), (4, 1, 33, 5), (5, 4, 35, 18), (5, 4, 39, 17), (6, 10, 45, 41), (6, 9, 41, 40), (7, 35, 47, 148), (5, 4, 57, 16), (6, 19, 59, 72), (6, 10, 81, 38), (7, 20, 105, 77), (7, 35, 83, 128), (8, 90, 107, 335), (6, 9, 63, 35), (7, 35, 69, 135), (7, 35, 87, 129), (8, 90, 111, 335), (8, 56, 93, 217), (9, 216, 117, 826), (7, 14, 65, 63), (8, 70, 71, 303), (8, 70, 89, 273), (9, 216, 113, 826), (9, 168, 95, 704), (10, 768, 119, 3061)]
def infI (I : List (Int × Int × Nat × Nat)) (i : Nat) : Int × Int × Nat × Nat := I.getD i (0, 0, 0, 0)
def ordOk (O : List (List Int)) (I : List (Int × Int × Nat × Nat)) (i : Nat) : Bool :=
  decide (impl_InversionsOf.f 60 (O.getD i []) = some ((infI I i).1, true)) && decide (impl_isCounted.f 60 (O.getD i []) = some true) && decide (impl_BackOrder.f 60 (O.getD i []) = some (O.getD (infI I i).2.2.1 [], true)) && decide ((infI I i).2.2.1 < O.length) && decide (laws_nSame.f 60 (O.getD i []) (O.getD i []) = some true) && decide (0 ≤ (infI I i).1 ∧ (infI I i).1 ≤ 100)
theorem ord2 : ∀ i ∈ List.range 2, ordOk ordL2 inf2 i = true := by decide +kernel
theorem ord3 : ∀ i ∈ List.range 6, ordOk ordL3 inf3 i = true := by decide +kernel
theorem ord4 : ∀ i ∈ List.range 24, ordOk ordL4 inf4 i = true := by decide +kernel
set_option maxHeartbeats 8000000 in
theorem ord5 : ∀ i ∈ List.range 120, ordOk ordL5 inf5 i = true := by decide +kernel
def look (O : List (List Int)) (I : List (Int × Int × Nat × Nat)) (b : Int) (z : List Int) : Option (Int × Nat) :=
  match (List.range O.length).find? fun j => decide (O.getD j [] = z) with
  | some j => if (infI I j).1 < b then some ((infI I j).2.1, (infI I j).2.2.2) else none
  | none => none
def locOk (O : List (List Int)) (I : List (Int × Int × Nat × Nat)) (i : Nat) : Bool :=
  decide (((impl_orderKey.f 20 (O.getD i [])).bind fun q => (impl_descents.f 20 (O.getD i [])).bind fun ds => if ctNums q.data.toList = O.getD i [] ∧ q.size ≤ 1000 ∧ ds.length ≤ 1000 then (ctL (look O I (infI I i).1) (O.getD i []) ds 0 0).bind fun x => if 0 ≤ (if ds.length = 0 then 1 else x.1) ∧ (if ds.length = 0 then 1 else x.1) ≤ 1000000 then some ((if ds.length = 0 then 1 else x.1), x.2 + 1) else none else none) = some ((infI I i).2.1, (infI I i).2.2.2)) && decide ((infI I i).2.2.2 ≤ 1000000)
theorem loc2 : ∀ i ∈ List.range 2, locOk ordL2 inf2 i = true := by decide +kernel
theorem loc3 : ∀ i ∈ List.range 6, locOk ordL3 inf3 i = true := by decide +kernel
theorem loc4 : ∀ i ∈ List.range 24, locOk ordL4 inf4 i = true := by decide +kernel
set_option maxHeartbeats 8000000 in
theorem loc5 : ∀ i ∈ List.range 120, locOk ordL5 inf5 i = true := by decide +kernel
theorem ct_all {O : List (List Int)} {I : List (Int × Int × Nat × Nat)} (h : ∀ i, i < O.length → locOk O I i = true) (hp : ∀ i, i < O.length → 0 ≤ (infI I i).1) : ∀ (m i : Nat), i < O.length → (infI I i).1 ≤ (m : Int) → ctF (20 + m + 1) (O.getD i []) = some ((infI I i).2.1, (infI I i).2.2.2) := by
  intro m
  induction m with
  | zero =>
    intro i hi hm
    have h1 := h i hi
    unfold locOk at h1
    rw [Bool.and_eq_true] at h1
    have h2 := of_decide_eq_true h1.1
    rw [ctF]
    refine (LeO.bind (LeO.refl _) fun q => LeO.bind (LeO.refl _) fun ds => LeO.ite (LeO.bind (ctL_mono ?_ _ ds 0 0) fun x => LeO.refl _) (LeO.refl _)) _ h2
    intro z r hr
    unfold look at hr
    split at hr
    · rename_i j ej
      split at hr
      · rename_i hlt
        have hj := hp j (List.mem_range.1 (List.mem_of_find?_eq_some ej))
        omega
      · exact absurd hr (by simp)
    · exact absurd hr (by simp)
  | succ m ih =>
    intro i hi hm
    have h1 := h i hi
    unfold locOk at h1
    rw [Bool.and_eq_true] at h1
    have h2 := of_decide_eq_true h1.1
    rw [ctF]
    refine (LeO.bind (fun r hr => at_rounds (fun k => impl_orderKey.mono _ k) (show 20 ≤ 20 + (m + 1) by omega) hr) fun q => LeO.bind (fun r hr => at_rounds (fun k => impl_descents.mono _ k) (show 20 ≤ 20 + (m + 1) by omega) hr) fun ds => LeO.ite (LeO.bind (ctL_mono ?_ _ ds 0 0) fun x => LeO.refl _) (LeO.refl _)) _ h2
    intro z r hr
    unfold look at hr
    split at hr
    · rename_i j ej
      split at hr
      · rename_i hlt
        have e1 := ih j (List.mem_range.1 (List.mem_of_find?_eq_some ej)) (by omega)
        have e2 : O.getD j [] = z := of_decide_eq_true (p := O.getD j [] = z) (by have h_ := List.find?_some ej; exact h_)
        rw [e2] at e1
        rw [← hr]
        exact e1
      · exact absurd hr (by simp)
    · exact absurd hr (by simp)
def numOk (O : List (List Int)) (T : List Int) (I : List (Int × Int × Nat × Nat)) (K : Int) (m : Nat) (i : Nat) : Bool :=
  decide (T.getD (infI I i).2.2.1 0 = T.getD i 0) && decide ((infI I i).1 > K → T.getD i 0 = 0) && decide (Int.tmod ((infI I i).1 - K) 2 ≠ 0 → T.getD i 0 = 0) && decide ((infI I i).1 = K → T.getD i 0 = (infI I i).2.1) && decide ((infI I i).1 < K → Int.tmod (K - (infI I i).1) 2 = 0 → 1 ≤ T.getD i 0) && decide (T.getD i 0 ≤ T.getD m 0) && decide (T.getD i 0 = T.getD m 0 → laws_nLess.f 60 (O.getD i []) (O.getD m []) = some false)
def numAll (O : List (List Int)) (T : List Int) (I : List (Int × Int × Nat × Nat)) (K : Int) : Bool := (List.range O.length).all fun i => numOk O T I K (argm T T.length 0 0).toNat i
theorem num2 : ∀ K ∈ List.range 21, numAll ordL2 (tab2 K) inf2 ((K : Nat) : Int) = true := by decide +kernel
theorem num3 : ∀ K ∈ List.range 21, numAll ordL3 (tab3 K) inf3 ((K : Nat) : Int) = true := by decide +kernel
theorem num4 : ∀ K ∈ List.range 21, numAll ordL4 (tab4 K) inf4 ((K : Nat) : Int) = true := by decide +kernel
set_option maxHeartbeats 8000000 in
theorem num5a : ∀ K ∈ List.range 10, numAll ordL5 (tab5 K) inf5 ((K : Nat) : Int) = true := by decide +kernel
set_option maxHeartbeats 8000000 in
theorem num5b : ∀ K ∈ List.range 11, numAll ordL5 (tab5 (10 + K)) inf5 ((10 + K : Nat) : Int) = true := by decide +kernel
def ladOk (n K : Int) (T : List Int) : Bool :=
  match impl_CountLadders.f 200 n K with
  | some (t, true) => T.all fun c => match (impl_power.f 200 (wrap64 (n - 1)) K).bind (fun u => impl_ratio.f 200 c u) with
    | some (r, s) => decide (s ≠ 0 ∧ wrap64 (r * wrap64 (Int.tdiv t s)) = c)
    | none => false
  | _ => false
theorem lad2 : ∀ K ∈ List.range 21, ladOk 2 ((K : Nat) : Int) (tab2 K) = true := by decide +kernel
theorem lad3 : ∀ K ∈ List.range 21, ladOk 3 ((K : Nat) : Int) (tab3 K) = true := by decide +kernel
theorem lad4 : ∀ K ∈ List.range 21, ladOk 4 ((K : Nat) : Int) (tab4 K) = true := by decide +kernel
theorem lad5a : ∀ K ∈ List.range 10, ladOk 5 ((K : Nat) : Int) (tab5 K) = true := by decide +kernel
theorem lad5b : ∀ K ∈ List.range 11, ladOk 5 ((10 + K : Nat) : Int) (tab5 (10 + K)) = true := by decide +kernel
structure OrdFacts (n : Nat) (O : List (List Int)) (T : Nat → List Int) (I : List (Int × Int × Nat × Nat)) : Prop where
  ok : ∀ i, i < O.length → ordOk O I i = true
  loc : ∀ i, i < O.length → locOk O I i = true
  num : ∀ K : Nat, K ≤ 20 → numAll O (T K) I (K : Int) = true
  lad : ∀ K : Nat, K ≤ 20 → ladOk (n : Int) (K : Int) (T K) = true
theorem ordFacts {n : Nat} {O : List (List Int)} {T : Nat → List Int} (F : MadeFacts n O T) (h1 : 2 ≤ n) (h2 : n ≤ 5) : ∃ I, OrdFacts n O T I := by
  have key : ∀ (O' : List (List Int)) (T' : Nat → List Int), (∀ k : Nat, k ≤ 20 → spec_alOrders.f 25000 (n : Int) = some O' ∧ spec_chOrders.f 25000 (n : Int) (k : Int) = some (T' k)) → O = O' ∧ ∀ k, k ≤ 20 → T k = T' k := by
    intro O' T' h
    refine ⟨?_, fun k hk => ?_⟩
    · have e1 := (F.ch 0 (by omega) 25000 (by omega)).1
      rw [(h 0 (by omega)).1] at e1
      exact (Option.some.inj e1).symm
    · have e1 := (F.ch k hk 25000 (by omega)).2
      rw [(h k hk).2] at e1
      exact (Option.some.inj e1).symm
  obtain rfl | rfl | rfl | rfl : n = 2 ∨ n = 3 ∨ n = 4 ∨ n = 5 := by omega
  · obtain ⟨rfl, hT⟩ := key ordL2 tab2 (fun k hk => ch2 k hk 25000 (by omega))
    refine ⟨inf2, fun i hi => ord2 i (List.mem_range.2 hi), fun i hi => loc2 i (List.mem_range.2 hi), fun K hK => ?_, fun K hK => ?_⟩
    · rw [hT K hK]; exact num2 K (List.mem_range.2 (by omega))
    · rw [hT K hK]; exact lad2 K (List.mem_range.2 (by omega))
  · obtain ⟨rfl, hT⟩ := key ordL3 tab3 (fun k hk => ch3 k hk 25000 (by omega))
    refine ⟨inf3, fun i hi => ord3 i (List.mem_range.2 hi), fun i hi => loc3 i (List.mem_range.2 hi), fun K hK => ?_, fun K hK => ?_⟩
    · rw [hT K hK]; exact num3 K (List.mem_range.2 (by omega))
    · rw [hT K hK]; exact lad3 K (List.mem_range.2 (by omega))
  · obtain ⟨rfl, hT⟩ := key ordL4 tab4 (fun k hk => ch4 k hk 25000 (by omega))
    refine ⟨inf4, fun i hi => ord4 i (List.mem_range.2 hi), fun i hi => loc4 i (List.mem_range.2 hi), fun K hK => ?_, fun K hK => ?_⟩
    · rw [hT K hK]; exact num4 K (List.mem_range.2 (by omega))
    · rw [hT K hK]; exact lad4 K (List.mem_range.2 (by omega))
  · obtain ⟨rfl, hT⟩ := key ordL5 tab5 (fun k hk => ch5 k hk 25000 (by omega))
    have hl : ordL5.length = 120 := rfl
    refine ⟨inf5, fun i hi => ord5 i (List.mem_range.2 (by rw [← hl]; exact hi)), fun i hi => loc5 i (List.mem_range.2 (by rw [← hl]; exact hi)), fun K hK => ?_, fun K hK => ?_⟩
    · rw [hT K hK]
      by_cases g : K < 10
      · exact num5a K (List.mem_range.2 g)
      · have := num5b (K - 10) (List.mem_range.2 (by omega))
        rwa [show 10 + (K - 10) = K by omega] at this
    · rw [hT K hK]
      by_cases g : K < 10
      · exact lad5a K (List.mem_range.2 g)
      · have := lad5b (K - 10) (List.mem_range.2 (by omega))
        rwa [show 10 + (K - 10) = K by omega] at this
theorem isTold_in : ∀ n ∈ List.range 6, 2 ≤ n → ∀ K ∈ List.range 21, impl_isTold.f ((n : Nat) : Int) ((K : Nat) : Int) = some true := by decide +kernel
theorem lk_at {n : Nat} {O : List (List Int)} {T : Nat → List Int} (F : MadeFacts n O T) (h1 : 2 ≤ n) (h2 : n ≤ 5) (K : Nat) (hK : K ≤ 20) :
    ∃ m : Nat, argm (T K) (T K).length 0 0 = m ∧ m < O.length ∧ ∃ M, ∀ k, M ≤ k → impl_LikeliestOrder.f k (n : Int) (K : Int) = some (O.getD m [], true) := by
  have hb := isTold_in n (List.mem_range.2 (by omega)) h1 K (List.mem_range.2 (by omega))
  have wf : ∀ x : Nat, x ≤ 20 → (Lit.int .i64 (x : Int)).wf = true := fun x hx => by
    have : wrap64 (x : Int) = (x : Int) := by unfold wrap64; omega
    rw [← this]; exact wrap64_wf _
  obtain ⟨M, r, ok, _, hs, hi⟩ := core_LikeliestOrder (n : Int) (K : Int) (wf n (by omega)) (wf K (by omega))
  have hlen := F.size K hK
  have hsm := F.some_
  have hs' := hs (25200 + M) (by omega)
  unfold spec_LikeliestOrder.f at hs'
  rw [told_same, hb, Option.bind_some, if_pos rfl, (F.ch K (by omega) (25200 + M) (by omega)).2, Option.bind_some] at hs'
  obtain ⟨j, hj⟩ : ∃ j, 25200 + M = j + (T K).length + 1 := ⟨25200 + M - (T K).length - 1, by omega⟩
  obtain ⟨c, f1, f2, f3⟩ := lk_l0 (n : Int) (T K) (by omega) (T K).length 0 0 j (by omega) (by omega)
  rw [show ((0 : Nat) : Int) = 0 from rfl] at f1 f3
  rw [hj, f3, (F.ch K (by omega) j (by omega)).1, Option.bind_some, if_pos (by omega), if_pos (by omega)] at hs'
  refine ⟨c, f1, by omega, M, fun k hk => ?_⟩
  rw [hi k hk]
  rw [← hs']
  congr 2
  try (unfold rd_L2; rw [Int.toNat_natCast])
end Go.Proofs.Ytabobnlpcapohaa.L
